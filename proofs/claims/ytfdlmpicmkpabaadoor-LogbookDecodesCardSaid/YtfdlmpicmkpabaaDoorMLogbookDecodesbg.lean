import Derived.Test.YtfdlmpicmkpabaaDoorMLogbookDecodesbf
import Derived.Test.YtfdlmpicmkpabaaDoorMLogbookDecodesbe
import Derived.Test.YtfdlmpicmkpabaaDoorProg
import Derived.Below
import Derived.Deep.Draws
import Derived.Deep.AppendLies
import Derived.Maps.AppendAt
import Derived.OwnWalk
import Derived.Laws.BytesArg
import Derived.Laws.MakeOwn
import Derived.Laws.OwnMore
import Derived.Deep.OwnRows
import Derived.Tactics
import Derived.Lib.ConvBytes
import Derived.Laws.Slices
import Derived.WalkKit
import Derived.KernelRfl
import Derived.RowKit3
import Derived.Deep.LoopGhost
import Derived.Deep.QuietTactic
import Derived.BigQuiet
import Derived.WideLaws
import Derived.Deep.DeepCutAuto
import Derived.Deep.CutBlock
import Derived.Deep.RegionHeld3
import Derived.Laws.Rows
import Derived.Lib.AppendStr
import Derived.ArgAppend
import Derived.Laws.IdiomCopy
import Derived.OrdersHeld
import Derived.Laws.BitsLemmas
import Derived.RowKit
import Derived.Test.YtfdlmpicmkpabaaDoorMLogbookDecodesac
import Derived.Test.YtfdlmpicmkpabaaDoorMLogbookDecodesaa
import Derived.Test.YtfdlmpicmkpabaaDoorMLogbookDecodesab
/-
  Texts of this claim, one behind the other: what they prove stands above each.
-/
set_option linter.unusedVariables false
set_option linter.unusedSimpArgs false
section
namespace Go.Proofs.YtfdlmpicmkpabaaDoor.Ext
set_option maxRecDepth 100000
open Go.RowKit Go.Shelf Go.Proofs.YtfdlmpicmkpabaaDoorW.PrintWords Go.Proofs.YtfdlmpicmkpabaaDoorW.PrintLast Go.Proofs.YtfdlmpicmkpabaaDoorW.PrintMore
attribute [local go_sem] Oper.semAt_some
attribute [local go_sem ↓] Go.wp_at_zero Go.wp_at_succ
def extB(old:ByteArray)(m:Int)(root:ByteArray)(n:Int)(l:List ByteArray):Bool:=
 decide (0<=m∧m<=n)&&(l.all dig32&&(dig32 old&&(dig32 root&&(if m=0 then decide (l=[]∧old=dE) else decide (Tree.both dN old m.toNat n.toNat l.reverse true=some (old,root))))))
def joinF(x:ByteArray × Bool)(v:ByteArray):ByteArray:=if x.2 then joinS x v else v
structure Two (O1 O2:Nat) (w w':World):Prop where
 os:w'.os=w.os
 tape:w'.tape=w.tape
 output:w'.output=w.output
 size:w.heap.size<=w'.heap.size
 block:∀k,k<w.heap.size->k≠O1->k≠O2->w'.heap[k]?=w.heap[k]?
theorem Two.refl(O1 O2:Nat)(w:World):Two O1 O2 w w:=⟨rfl,rfl,rfl,Nat.le_refl _,fun _ _ _ _=>rfl⟩
theorem Two.trans{O1 O2:Nat}{a b c:World}(h:Two O1 O2 a b)(k:Two O1 O2 b c):Two O1 O2 a c:=⟨k.os.trans h.os,k.tape.trans h.tape,k.output.trans h.output,Nat.le_trans h.size k.size,fun i hi h1 h2=>(k.block i (Nat.lt_of_lt_of_le hi h.size) h1 h2).trans (h.block i hi h1 h2)⟩
theorem Two.below{O1 O2:Nat}{w w':World}(h:Below w.heap.size w w'):Two O1 O2 w w':=⟨h.os,h.tape,h.output,h.size,fun k hk _ _=>h.block k hk⟩
theorem Two.one{O1 O2:Nat}{w w':World}(h:w.grownBy w' (some O1)):Two O1 O2 w w':=⟨h.os,h.tape,h.output,h.size,fun k hk h1 _=>h.block k hk (fun e=>by injection e with e;exact h1 e)⟩
theorem Two.two{O1 O2:Nat}{w w':World}(h:w.grownBy w' (some O2)):Two O1 O2 w w':=⟨h.os,h.tape,h.output,h.size,fun k hk _ h2=>h.block k hk (fun e=>by injection e with e;exact h2 e)⟩
theorem Two.toBelow{O1 O2:Nat}{w w' a:World}(h:Two O1 O2 w w'){B:Nat}(hb:Below B a w)(h1:B<=O1)(h2:B<=O2)(hs:B<=w.heap.size):Below B a w':=⟨h.os.trans hb.os,h.tape.trans hb.tape,h.output.trans hb.output,Nat.le_trans hb.size h.size,fun k hk=>(h.block k (by omega) (by omega) (by omega)).trans (hb.block k hk)⟩
theorem own_two{β:Type}{B O1 O2:Nat}{w:World}(hB:w.heap.size<=B):OwnFrom B (fun(_:β) W=>Two O1 O2 w W):=fun s W W' row hs hgr hr=>
 ⟨hgr.os.trans hs.os,hgr.tape.trans hs.tape,hgr.output.trans hs.output,Nat.le_trans hs.size hgr.size,fun k hk h1 h2=>(hgr.block k (Nat.lt_of_lt_of_le hk hs.size) (fun e=>by have:=(hr k e.symm).1;omega)).trans (hs.block k hk h1 h2)⟩
theorem keeps_two{W W':World}{B O1 O2:Nat}(h:Two O1 O2 W W')(h1:O1<B)(h2:O2<B):KeepsFrom B W W':=⟨h.size,fun k o hk h0 _=>(h.block k (Array.getElem?_eq_some_iff.1 h0).1 (by omega) (by omega)).trans h0⟩
theorem side_gives2{w:World}{N n:Nat}{v:Value}{W:List (ByteArray × Bool)}(hn:W.length=n)(hn2:n<1000000000)(h:w.ownsRow N 133 2 v n (sideCells W))(W0:World)(B:Nat)(hB:Blk W0 B 129 [v])(hb:Below w.heap.size w W0){KS:Nat->Prop}(hK:∀k,k=B∨k<w.heap.size->KS k):
  GivesAllK Fence.wide 4 Tryd.prog 103 #[.pointer (some ⟨B,0,none⟩)] pairS (backs (⟨#[]⟩,false) W) KS W0:=by
 have hBlt:=hB.lt;rcases h.2 with ⟨rfl,h0⟩ |⟨g,cap,cur,rfl,hg,hh,hnc,_,_,ht⟩
 ·have hW:W=[]:=List.eq_nil_of_length_eq_zero (by rw[hn];exact h0);subst hW;exact (backS0_gives B 0 none W0 hB).mono (fun k hk=>hK k (Or.inl hk))
 ·have hC:Blk W0 g 133 cur.toList:=by
   have h1:Blk w g 133 cur.toList:=by simpa [Blk] using hh
   exact h1.belowS hb
  have hgw:g<w.heap.size:=(Array.getElem?_eq_some_iff.1 hh).1;refine (backS1_gives B g n cap 133 W hn hn2 cur.toList ?_ W0 hB hC).mono (fun k hk=>?_)
  ·intro j x hj;have hjn:j<n:=by rw[<-hn];exact (List.getElem?_eq_some_iff.1 hj).1
   have:=sideCells_get W j x hj;rw[<-ht,List.getElem?_take,List.getElem?_take,if_pos (by omega),if_pos (by omega)] at this;exact this
  ·rcases hk with rfl |rfl
   ·exact hK _ (Or.inl rfl)
   ·exact hK _ (Or.inr hgw)
def valF(o:ByteArray)(pre:List (Nat × (ByteArray × Bool))):ByteArray:=(pre.map (·.2)).foldl (fun o x=>joinF x o) o
theorem valF_snoc(o:ByteArray)(pre:List (Nat × (ByteArray × Bool)))(p:Nat × (ByteArray × Bool)):valF o (pre++[p])=joinF p.2 (valF o pre):=by simp[valF]
theorem joinF_size(x:ByteArray × Bool)(o:ByteArray)(ho:o.size=32):(joinF x o).size=32:=by unfold joinF;split;exact joinS_size _ _;exact ho
theorem valF_size(o:ByteArray)(ho:o.size=32)(pre:List (Nat × (ByteArray × Bool))):(valF o pre).size=32:=by
 unfold valF;have:∀(l:List (ByteArray × Bool)) (o:ByteArray),o.size=32->(l.foldl (fun o x=>joinF x o) o).size=32:=by
  intro l
  induction l with
  |nil=>intro o h;exact h
  |cons x l ih=>intro o h;exact ih _ (joinF_size x o h)
 exact this _ o ho
theorem valF_all(o:ByteArray)(W:List (ByteArray × Bool))(d:ByteArray × Bool):valF o (backs d W)=W.foldr joinF o:=by
 unfold valF;rw[backs_snd,List.foldl_reverse]
set_option maxRecDepth 100000 in
set_option maxHeartbeats 2000000 in
theorem VerifyExtension_walk(old:ByteArray)(m:Int)(root:ByteArray)(n:Int)(A:Option Addr)(c:Nat)(l:List ByteArray)(w:World)(hG:GL w)(hr:Kd.C Kd.string w A l.length l)(hc:l.length<=c)(hln:l.length<=1000000)(hls:∀x ∈ l,x.size<=9223372036854775807)
  (hn0: -9223372036854775808<=n) (hn1:n<=9223372036854775807) (hm0: -9223372036854775808<=m) (hm1:m<=9223372036854775807) (ho1:old.size<=9223372036854775807) (hr1:root.size<=9223372036854775807):
  Calls Tryd.prog 73 #[.string old,.int .i64 m,.string root,.int .i64 n,.slice A l.length c] w fun e w'=>e=.returned (.bool (extB old m root n l))∧Below w.heap.size w w':=by
 have hall:=fun W hW=>all_walk A c l W hW hc hln hls
 have HALL:=Lib.hid hall;have HR:=Lib.hid hr;have HG:=Lib.hid hG;have HS:=Lib.hid hls;clear hall hr hG hls
 by_cases hin:0<=m∧m<=n
 ·have d1:decide (m<0)=false:=decide_eq_false (by omega);have d2:decide (n<m)=false:=decide_eq_false (by omega)
  by_cases h32:l.all dig32=true
  ·by_cases ho:old.size=32
   ·have eo:((old.size:Int)==32)=true:=by simp[ho]
    by_cases hrt:root.size=32
    ·have er:((root.size:Int)==32)=true:=by simp[hrt]
     obtain⟨M0,rfl⟩:=Int.eq_ofNat_of_zero_le hin.1;obtain⟨N0,rfl⟩:=Int.eq_ofNat_of_zero_le (show 0<=n by omega);have hv:extB old (M0:Int) root (N0:Int) l=(if M0=0 then decide (l=[]∧old=dE) else decide (Tree.both dN old M0 N0 l.reverse true=some (old,root))):=by
      unfold extB;simp only[hin,h32,dig32,ho,hrt];simp
     have HV:=Lib.hid (And.intro hv h32);clear hv;have hMN:M0<=N0:=by omega
     have d2':decide (N0<M0)=false:=decide_eq_false (by omega);have hds:∀x ∈ l,x.size=32:=fun x hx=>by have:=List.all_eq_true.1 h32 x hx;simpa [dig32] using this
     have HDS:=Lib.hid (And.intro hds ho);clear hds h32 hin ho hrt;obtain⟨L,hL⟩:∃L,l.length=L:=⟨_,rfl⟩
     have hlr:=HR.out;rw[hL] at hlr hc hln ⊢;have HLR:=Lib.hid (And.intro hL hlr);clear hL hlr;obtain⟨i0,hi,hz0,hz1,hz2⟩:=info_parts infoQ58
     by_cases hM:M0=0
     ·subst hM;have hsz0:(⟨#[]⟩:ByteArray).size<=140737488350000:=by decide
      by_cases hL0:L=0
      ·have dl:((L:Int)==0)=true:=by simp[hL0]
       have HL0:=Lib.hid hL0;clear hL0;refine calls_of_wp_marks Tryd.func73 rfl ?_;simp only[Tryd.ntmps73,List.size_toArray,List.length_cons,List.length_nil,Nat.reduceAdd,Nat.reduceSub,Array.replicate_succ,Array.replicate_zero,List.push_toArray,List.append_toArray,List.nil_append,List.cons_append]
       go_wp2_with (first |(go_at_call 86;have hq:=HALL.out _ HR.out;rw[HLR.out.1,HV.out.2] at hq;refine hq.mono ?_;rintro e w' ⟨rfl,hw'⟩;obtain rfl:=hw'.symm) |(go_at_call 90;refine (isDigest_walk old ho1 _).mono ?_;rintro e w' ⟨rfl,hw'⟩;obtain rfl:=hw'.symm) |(go_at_call 90;refine (isDigest_walk root hr1 _).mono ?_;rintro e w' ⟨rfl,hw'⟩;obtain rfl:=hw'.symm) |(go_at_call 79;refine (Sum_walk ⟨#[]⟩ hsz0 _ HG.out).mono ?_;rintro e w2 ⟨rfl,hb2⟩) |fail)
       refine⟨_,results_tmp rfl _ _ _,?_,hb2⟩;have hl0:l=[]:=List.eq_nil_of_length_eq_zero (by rw[HLR.out.1,HL0.out]);rw[HV.out.1,if_pos trivial]
       show Ending.returned (.bool (old.toList==(str (Sha.sha (nat ⟨#[]⟩))).toList))=_
       rw[str_eq];simp only[hl0,true_and];rfl
      ·have dl:((L:Int)==0)=false:=by simp;omega
       have HL0:=Lib.hid hL0;clear hL0;refine calls_of_wp_marks Tryd.func73 rfl ?_;simp only[Tryd.ntmps73,List.size_toArray,List.length_cons,List.length_nil,Nat.reduceAdd,Nat.reduceSub,Array.replicate_succ,Array.replicate_zero,List.push_toArray,List.append_toArray,List.nil_append,List.cons_append]
       go_wp2_with (first |(go_at_call 86;have hq:=HALL.out _ HR.out;rw[HLR.out.1,HV.out.2] at hq;refine hq.mono ?_;rintro e w' ⟨rfl,hw'⟩;obtain rfl:=hw'.symm) |(go_at_call 90;refine (isDigest_walk old ho1 _).mono ?_;rintro e w' ⟨rfl,hw'⟩;obtain rfl:=hw'.symm) |(go_at_call 90;refine (isDigest_walk root hr1 _).mono ?_;rintro e w' ⟨rfl,hw'⟩;obtain rfl:=hw'.symm) |fail)
       refine⟨_,results_tmp rfl _ _ _,?_,Below.refl _ _⟩;have hl0:¬l=[]:=fun h=>HL0.out (by rw[<-HLR.out.1,h];rfl)
       rw[HV.out.1,if_pos trivial];have hdf:decide (l=[]∧old=dE)=false:=decide_eq_false (fun h=>hl0 h.1);rw[hdf];rfl
     ·have dM:((M0:Int)==0)=false:=by simp;omega
      by_cases hE:M0=N0
      ·subst hE;have dE':((M0:Int)==(M0:Int))=true:=by simp
       have hbo:=Tree.both_whole (nd:=dN) (old:=old) (Nat.le_refl M0) l.reverse;have HBO:=Lib.hid (And.intro hbo hM);clear hbo hM
       by_cases hL0:L=0
       ·have dl:((L:Int)==0)=true:=by simp[hL0]
        have HL0:=Lib.hid hL0;clear hL0;refine calls_of_wp_marks Tryd.func73 rfl ?_;simp only[Tryd.ntmps73,List.size_toArray,List.length_cons,List.length_nil,Nat.reduceAdd,Nat.reduceSub,Array.replicate_succ,Array.replicate_zero,List.push_toArray,List.append_toArray,List.nil_append,List.cons_append]
        go_wp2_with (first |(go_at_call 86;have hq:=HALL.out _ HR.out;rw[HLR.out.1,HV.out.2] at hq;refine hq.mono ?_;rintro e w' ⟨rfl,hw'⟩;obtain rfl:=hw'.symm) |(go_at_call 90;refine (isDigest_walk old ho1 _).mono ?_;rintro e w' ⟨rfl,hw'⟩;obtain rfl:=hw'.symm) |(go_at_call 90;refine (isDigest_walk root hr1 _).mono ?_;rintro e w' ⟨rfl,hw'⟩;obtain rfl:=hw'.symm) |fail)
        refine⟨_,results_tmp rfl _ _ _,?_,Below.refl _ _⟩;have hl0:l=[]:=List.eq_nil_of_length_eq_zero (by rw[HLR.out.1,HL0.out]);rw[HV.out.1,if_neg HBO.out.2,HBO.out.1,hl0]
        show Ending.returned (.bool (old.toList==root.toList))=_
        rw[str_eq];simp
       ·have dl:((L:Int)==0)=false:=by simp;omega
        have HL0:=Lib.hid hL0;clear hL0;refine calls_of_wp_marks Tryd.func73 rfl ?_;simp only[Tryd.ntmps73,List.size_toArray,List.length_cons,List.length_nil,Nat.reduceAdd,Nat.reduceSub,Array.replicate_succ,Array.replicate_zero,List.push_toArray,List.append_toArray,List.nil_append,List.cons_append]
        go_wp2_with (first |(go_at_call 86;have hq:=HALL.out _ HR.out;rw[HLR.out.1,HV.out.2] at hq;refine hq.mono ?_;rintro e w' ⟨rfl,hw'⟩;obtain rfl:=hw'.symm) |(go_at_call 90;refine (isDigest_walk old ho1 _).mono ?_;rintro e w' ⟨rfl,hw'⟩;obtain rfl:=hw'.symm) |(go_at_call 90;refine (isDigest_walk root hr1 _).mono ?_;rintro e w' ⟨rfl,hw'⟩;obtain rfl:=hw'.symm) |fail)
        refine⟨_,results_tmp rfl _ _ _,?_,Below.refl _ _⟩;have hl0:¬l.reverse=[]:=fun h=>HL0.out (by rw[<-HLR.out.1,List.reverse_eq_nil_iff.1 h];rfl)
        rw[HV.out.1,if_neg HBO.out.2,HBO.out.1,if_neg hl0];rfl
      ·have dE':((M0:Int)==(N0:Int))=false:=by simp;omega
       have hML:M0<N0:=by omega
       rw[if_neg hM] at HV;refine calls_of_wp_marks Tryd.func73 rfl ?_;simp only[Tryd.ntmps73,List.size_toArray,List.length_cons,List.length_nil,Nat.reduceAdd,Nat.reduceSub,Array.replicate_succ,Array.replicate_zero,List.push_toArray,List.append_toArray,List.nil_append,List.cons_append]
       go_wp2_with (first |(go_at_call 86;have hq:=HALL.out _ HR.out;rw[HLR.out.1,HV.out.2] at hq;refine hq.mono ?_;rintro e w' ⟨rfl,hw'⟩;obtain rfl:=hw'.symm) |(go_at_call 90;refine (isDigest_walk old ho1 _).mono ?_;rintro e w' ⟨rfl,hw'⟩;obtain rfl:=hw'.symm) |(go_at_call 90;refine (isDigest_walk root hr1 _).mono ?_;rintro e w' ⟨rfl,hw'⟩;obtain rfl:=hw'.symm) |fail)
       go_loopw [1,3,4,11,12] (fun vm vn vp vw vb wr=>∃(m' n' j:Nat) (W:List (ByteArray × Bool)) (b:Bool),vm=.int .i64 (m':Int)∧vn=.int .i64 (n':Int)∧vp=.slice A j c∧vb=.bool b∧j<=L∧1<=m'∧m'<=n'∧n'<=N0∧W.length+j=L∧Hid (wr.ownsRow w.heap.size 133 2 vw W.length (sideCells W))∧Hid (∀x ∈ W,x.1.size=32)∧Hid (Tree.both dN old M0 N0 l.reverse true=(Tree.both dN old m' n' (l.take j).reverse b).map (fun p=>(W.foldr joinF p.1,W.foldr joinS p.2)))∧Below w.heap.size w wr) (fun vm vn vp vw vb wr=>lenOf vp)
       case atStart=>exact⟨M0,N0,L,[],true,rfl,rfl,rfl,rfl,Nat.le_refl _,by omega,by omega,Nat.le_refl _,by simp,Lib.hid (World.ownsRow_nil _ _ _ _),Lib.hid (by simp),Lib.hid (by rw[List.take_of_length_le (by rw[HLR.out.1];exact Nat.le_refl _)];simp),Below.refl _ _⟩
       case round=>
        obtain⟨m',n',j,W,b,rfl,rfl,rfl,rfl,hjL,hm1',hmn',hnN,hWj,hown,hw32,hval,hbel⟩:=hrel
        by_cases hlt:m'<n'
        ·have d3:decide ((m':Int)<(n':Int))=true:=decide_eq_true (by omega)
         by_cases hj0:j=0
         ·subst hj0;have htk:=take_walk A 0 c wr ⟨#[]⟩ (fun h=>absurd h (by omega)) (by omega) (by omega);rw[if_pos rfl] at htk;have HT:=Lib.hid htk;clear htk;have hres:decide (Tree.both dN old M0 N0 l.reverse true=some (old,root))=false:=by
           rw[hval.out,List.take_zero,List.reverse_nil,Tree.both_nil (nd:=dN) (old:=old) hlt b];simp
          have HRES:=Lib.hid hres;clear hres
          go_wp2_with (first |(go_at_call 87;refine (HT.out).mono ?_;rintro e w2 ⟨rfl,m2,rfl⟩) |fail)
          refine⟨_,results_tmp rfl _ _ _,?_,below_dN hbel m2⟩;rw[HV.out.1,HRES.out];rfl
         obtain⟨x,hx⟩:∃x,l[j - 1]?=some x:=⟨l[j - 1]'(by rw[HLR.out.1];omega),List.getElem?_eq_getElem _⟩
         obtain⟨ad,hA,_⟩:=HLR.out.2.2.2 (by omega);subst hA;have hcell:wr.cell? (ad.add (j - 1))=some (.string x):=by
          have h0:=strs_cell HLR.out.2 hx;rw[hbel.cell (World.block_lt_of_cell? w _ h0)];exact h0
         have htk:=take_walk (some ad) j c wr x (fun _=>⟨ad,rfl,hcell⟩) (by omega) (by omega);rw[if_neg hj0] at htk;have HT:=Lib.hid htk;obtain⟨j1,hj1⟩:∃j1,j=j1+1:=⟨j - 1,by omega⟩
         subst hj1;rw[Nat.add_sub_cancel] at hx;have HX:=Lib.hid hx;clear htk hcell hx hj0;obtain⟨k,hk⟩:∃k,Tree.left n'=k:=⟨_,rfl⟩
         have hkn:0<k∧k<n':=by rw[<-hk];exact⟨Tree.left_pos _,Tree.left_lt (by omega)⟩
         have HK:=Lib.hid hk;clear hk;have hstep:∀(b2:Bool) (m2 n2:Nat) (b3:Bool),(if b2 then k<m'∧m2=m' - k∧n2=n' - k∧b3=false else m'<=k∧m2=m'∧n2=k∧b3=b)->Tree.both dN old M0 N0 l.reverse true=(Tree.both dN old m2 n2 (l.take j1).reverse b3).map (fun p=>((W++[(x,b2)]).foldr joinF p.1,(W++[(x,b2)]).foldr joinS p.2)):=by
          intro b2 m2 n2 b3 hb;rw[hval.out];have hrev:(l.take (j1+1)).reverse=x::(l.take j1).reverse:=by rw[List.take_add_one,HX.out];simp
          rw[hrev]
          cases b2 with
          |true=>
           simp only[if_true] at hb;obtain⟨h1,rfl,rfl,rfl⟩:=hb;rw[<-HK.out,Tree.both_high (nd:=dN) (old:=old) hlt (by rw[HK.out];exact h1),Option.map_map];congr 1
           funext v
           simp[joinS,joinF]
          |false=>
           simp only[Bool.false_eq_true,if_false] at hb;obtain⟨h1,rfl,rfl,rfl⟩:=hb;rw[<-HK.out,Tree.both_low (nd:=dN) (old:=old) hlt (by rw[HK.out];exact h1),Option.map_map];congr 1
           funext v
           simp[joinS,joinF]
         have HST:=Lib.hid hstep;clear hstep;have hkn1:=hkn.1;have hkn2:=hkn.2;clear hkn;have hNr:=hbel.size;have hlf:=fun W0=>left_walk n' (by omega) (by omega) W0
         have HLF:=Lib.hid hlf;clear hlf;obtain⟨q,hq⟩:∃q,W.length=q:=⟨_,rfl⟩
         have ho:=hown.out;rw[hq] at ho hWj;have HO:=Lib.hid ho;have HQ:=Lib.hid hq;clear ho hq
         by_cases hik:k<m'
         ·have d4:decide ((k:Int)<(m':Int))=true:=decide_eq_true (by omega)
          go_wp2_with (first |(go_at_call 87;refine (HT.out).mono ?_;rintro e w2 ⟨rfl,m2,rfl⟩;have HO2:=Lib.hid (own_dN HO.out m2)) |(go_at_call 84;refine (HLF.out _).mono ?_;rintro e w2 ⟨he,hw2⟩;obtain rfl:=hw2.symm;rw[HK.out] at he;subst he) |(at_builtin;refine wpList_append_own _ (by rfl) (.tmp 81) (.tmp 87) 129 (by rfl) w.heap.size 133 i0 _ 2 24 Tryd.underlying129 hi hz0 hz1 hz2 (by rfl) (by decide) u11 q (sideCells W) (by rfl) (HO2.out.alloc _) ⟨wr.heap.size,0,none⟩ 1 1 [.string x,.bool true] (by rfl) rfl (news_new _ _ _ _ _ rfl rfl) (by simp[Value.oneCell']) (by unfold maxLen;omega) (by omega) (by simp;omega) ?_;intro v3' w3 hown3 hg3 hnil3) |fail)
          go_roundw
          case rel=>
           have hlen:(W++[(x,true)]).length=q+1:=by rw[List.length_append,HQ.out,List.length_singleton]
           refine⟨m' - k,n' - k,j1,W++[(x,true)],false,by congr 1;omega,by congr 1;omega,by simp,rfl,by omega,by omega,by omega,by omega,by rw[hlen];omega,Lib.hid ?_,Lib.hid ?_,Lib.hid (HST.out true _ _ _ (by rw[if_pos rfl];exact⟨hik,rfl,rfl,rfl⟩)),?_⟩
           ·rw[hlen,sideCells_snoc];exact hown3
           ·intro y hy;rcases List.mem_append.1 hy with h |h
            ·exact hw32.out y h
            ·rw[List.mem_singleton] at h;rw[h];exact HDS.out.1 x (List.mem_of_getElem? HX.out)
           ·exact Below.grown ((below_dN hbel m2).alloc (by simpa using hNr) _) hg3 (by simp;omega) (fun k hk=>(HO2.out.lt k hk).1)
          case measure=>simp[lenOf]
         ·have d4:decide ((k:Int)<(m':Int))=false:=decide_eq_false (by omega)
          go_wp2_with (first |(go_at_call 87;refine (HT.out).mono ?_;rintro e w2 ⟨rfl,m2,rfl⟩;have HO2:=Lib.hid (own_dN HO.out m2)) |(go_at_call 84;refine (HLF.out _).mono ?_;rintro e w2 ⟨he,hw2⟩;obtain rfl:=hw2.symm;rw[HK.out] at he;subst he) |(at_builtin;refine wpList_append_own _ (by rfl) (.tmp 81) (.tmp 87) 129 (by rfl) w.heap.size 133 i0 _ 2 24 Tryd.underlying129 hi hz0 hz1 hz2 (by rfl) (by decide) u11 q (sideCells W) (by rfl) (HO2.out.alloc _) ⟨wr.heap.size,0,none⟩ 1 1 [.string x,.bool false] (by rfl) rfl (news_new _ _ _ _ _ rfl rfl) (by simp[Value.oneCell']) (by unfold maxLen;omega) (by omega) (by simp;omega) ?_;intro v3' w3 hown3 hg3 hnil3) |fail)
          go_roundw
          case rel=>
           have hlen:(W++[(x,false)]).length=q+1:=by rw[List.length_append,HQ.out,List.length_singleton]
           refine⟨m',k,j1,W++[(x,false)],b,rfl,rfl,by simp,rfl,by omega,by omega,by omega,by omega,by rw[hlen];omega,Lib.hid ?_,Lib.hid ?_,Lib.hid (HST.out false _ _ _ (by rw[if_neg (by simp)];exact⟨by omega,rfl,rfl,rfl⟩)),?_⟩
           ·rw[hlen,sideCells_snoc];exact hown3
           ·intro y hy;rcases List.mem_append.1 hy with h |h
            ·exact hw32.out y h
            ·rw[List.mem_singleton] at h;rw[h];exact HDS.out.1 x (List.mem_of_getElem? HX.out)
           ·exact Below.grown ((below_dN hbel m2).alloc (by simpa using hNr) _) hg3 (by simp;omega) (fun k hk=>(HO2.out.lt k hk).1)
          case measure=>simp[lenOf]
        ·have hE':m'=n':=by omega
         subst hE';have d3:decide ((m':Int)<(m':Int))=false:=by simp
         obtain⟨q,hq⟩:∃q,W.length=q:=⟨_,rfl⟩
         have ho:=hown.out;rw[hq] at ho hWj;have HO:=Lib.hid ho;have HQ:=Lib.hid hq;clear ho hq;have hNr:=hbel.size;obtain⟨A',c',hvw⟩:∃A' c',u11=.slice A' q c':=by
          rcases HO.out.2 with ⟨h,h0⟩ |⟨g,cap,cur,h,_⟩
          ·exact⟨none,0,by rw[h,h0]⟩
          ·exact⟨_,_,h⟩
         subst hvw
         cases b with
         |true=>
          have hv1:=hval.out;rw[Tree.both_whole (nd:=dN) (old:=old) (Nat.le_refl m')] at hv1;have HV1:=Lib.hid hv1;clear hv1
          go_wp2_with (first |(go_at_call 88;refine (backS_walk _ _ _ _).mono ?_;rintro e w9 ⟨rfl,rfl⟩) |fail)
          have hB1:Blk (((wr.alloc (.cells #[.string old] 9)).alloc (.cells #[.string old] 9)).alloc (.cells #[.slice A' q c'] 129)) wr.heap.size 9 [.string old]:=((Blk.newA _ _ _ _ rfl).alloc _).alloc _;have hB2:Blk (((wr.alloc (.cells #[.string old] 9)).alloc (.cells #[.string old] 9)).alloc (.cells #[.slice A' q c'] 129)) (wr.heap.size+1) 9 [.string old]:=(cast_blk (Blk.newA _ _ _ _ rfl) (by simp)).alloc _;have hB0:Blk (((wr.alloc (.cells #[.string old] 9)).alloc (.cells #[.string old] 9)).alloc (.cells #[.slice A' q c'] 129)) (wr.heap.size+2) 129 [.slice A' q c']:=cast_blk (Blk.newA _ _ _ _ rfl) (by simp);have hbW:Below wr.heap.size wr (((wr.alloc (.cells #[.string old] 9)).alloc (.cells #[.string old] 9)).alloc (.cells #[.slice A' q c'] 129)):=(((Below.refl _ _).alloc (Nat.le_refl _) _).alloc (by simp) _).alloc (by simp;omega) _;have HOLD:=Lib.hid HDS.out.2;generalize (((wr.alloc (.cells #[.string old] 9)).alloc (.cells #[.string old] 9)).alloc (.cells #[.slice A' q c'] 129))=WW at*
          have hgiv:=side_gives2 HQ.out (by omega) HO.out _ (wr.heap.size+2) hB0 hbW (KS:=fun k=>k<WW.heap.size∧k≠wr.heap.size∧k≠wr.heap.size+1) (fun k hk=>by rcases hk with rfl |hk;exact⟨hB0.lt,by omega,by omega⟩;exact⟨Nat.lt_of_lt_of_le hk hbW.size,by omega,by omega⟩);have hbWw:Below w.heap.size w WW:=hbel.trans (hbW.mono (by omega));have hGW0:=HG.out.below hbWw;have HGW:=Lib.hid (And.intro hGW0 hbWw);have hsz0:=hB0.lt;clear hGW0 hbWw hB0;refine wp_rangeFunc_box (d:=20) (T:=133) (gf:=103) (lb:= #[.pointer (some ⟨wr.heap.size+2,0,none⟩)]) rfl (enters_of Tryd.func103 (by kernel_rfl) rfl) (KS:=fun k=>k<WW.heap.size∧k≠wr.heap.size∧k≠wr.heap.size+1) (fun k hk=>hk.1) hgiv (Below.refl _ _) (fun _=>rfl)
           (fun p=>[.string p.2.1,.bool p.2.2]) ?assign (fun pre V=>Blk V wr.heap.size 9 [.string (valF old pre)]∧Blk V (wr.heap.size+1) 9 [.string (valS old pre)]∧Two wr.heap.size (wr.heap.size+1) WW V) (OwnFrom.and (own_blk _ (by omega)) (OwnFrom.and (own_blk _ (by omega)) (own_two (Nat.le_refl _)))) ⟨hB1,hB2,Two.refl _ _ _⟩ ?body ?done
          case assign=>
           intro l' p V K hK;have hK':=Lib.hid hK;clear hK hgiv;simp only[pairS]
           gi_wp2
           have h:=hK'.out;simp[boxAct,pairS] at h;exact h
          case body=>
           intro l' pre p B V hI hBlk hBs hpre;obtain⟨hbV1,hbV2,hgr⟩:=hI;have hpW:p.2 ∈ W:=by
            have h1:p ∈ backs (⟨#[]⟩,false) W:=hpre.subset (by simp);have h2:p.2 ∈ (backs (⟨#[]⟩,false) W).map (·.2):=List.mem_map.2 ⟨p,h1,rfl⟩;rw[backs_snd,List.mem_reverse] at h2;exact h2
           have hp32:=hw32.out p.2 hpW;have hv132:=valF_size old HOLD.out pre;have hv232:=valS_size old HOLD.out pre;obtain⟨v1,hv1⟩:∃v,valF old pre=v:=⟨_,rfl⟩
           obtain⟨v2,hv2⟩:∃v,valS old pre=v:=⟨_,rfl⟩
           rw[hv1] at hbV1 hv132;rw[hv2] at hbV2 hv232;have HVV:=Lib.hid (And.intro hv1 hv2);have hsz1:p.2.1.size+v1.size<=140737488349000:=by omega
           have hsz2:p.2.1.size+v2.size<=140737488349000:=by omega
           have hGL:∀V',Two wr.heap.size (wr.heap.size+1) WW V'->GL V':=by
            intro V' hgr' i hi';have h0:=HGW.out.1 i hi';have hlt:=World.block_lt_of_cell? WW _ h0;have hlw:=World.block_lt_of_cell? w _ (HG.out i hi');have h1:=hgr'.block 0 (by simpa using hlt) (by simp only at hlw;omega) (by simp only at hlw;omega);rw[World.cell?_of_block (a:=⟨0,i,none⟩) h1];exact h0
           have HGL:=Lib.hid hGL;have cb0:V.cell? ⟨B,0,none⟩=some (.string p.2.1):=hBlk.cell rfl;have cb1:V.cell? ⟨B,1,none⟩=some (.bool p.2.2):=hBlk.cell rfl;have co1:V.cell? ⟨wr.heap.size,0,none⟩=some (.string v1):=hbV1.cell rfl;have co2:V.cell? ⟨wr.heap.size+1,0,none⟩=some (.string v2):=hbV2.cell rfl;clear hpre hgiv hv132 hv232 hp32 hv1 hv2 hGL hpW;have hBne1:B≠wr.heap.size:=by omega
           have hBne2:B≠wr.heap.size+1:=by omega
           by_cases hp2:p.2.2=true
           ·rw[hp2] at cb1;simp only[boxAct,pairS];simp
            gi_wp2_with fail
            refine⟨trivial,?_⟩;have HJ:=Lib.hid (join_walk p.2.1 true v1 hsz1 V (HGL.out V hgr));refine CallsIn.mono (CallsIn.inRound l' ((callsIn_wide (n:=2)).2 HJ.out)) ?_
            rintro e W3 ⟨rfl,hb3⟩
            have hb13:=hbV1.belowS hb3;have hb23:=hbV2.belowS hb3;have hB3:=hBlk.belowS hb3;have hg3:V.grownBy (W3.setCell ⟨wr.heap.size,0,none⟩ (.string (joinS (p.2.1,true) v1))) (some wr.heap.size):=grown_trans (below_grown (B:=0) hb3 _) (grown_setCells (b:=wr.heap.size) [_] 0 W3);have hgr3:=hgr.trans (Two.one (O2:=wr.heap.size+1) hg3);have hb14:=hb13.set 0 (.string (joinS (p.2.1,true) v1));have hb24:=hb23.set_other ⟨wr.heap.size,0,none⟩ (by simp) (.string (joinS (p.2.1,true) v1));have hB4:=hB3.set_other ⟨wr.heap.size,0,none⟩ hBne1 (.string (joinS (p.2.1,true) v1));have cb30:(W3.setCell ⟨wr.heap.size,0,none⟩ (.string (joinS (p.2.1,true) v1))).cell? ⟨B,0,none⟩=some (.string p.2.1):=hB4.cell rfl;have cb31:(W3.setCell ⟨wr.heap.size,0,none⟩ (.string (joinS (p.2.1,true) v1))).cell? ⟨B,1,none⟩=some (.bool true):=hB4.cell (by rw[<-hp2];rfl);have co32:(W3.setCell ⟨wr.heap.size,0,none⟩ (.string (joinS (p.2.1,true) v1))).cell? ⟨wr.heap.size+1,0,none⟩=some (.string v2):=hb24.cell rfl;have co31:W3.cell? ⟨wr.heap.size,0,none⟩=some (.string v1):=hb13.cell rfl;have cf3:=hb13.free 0
            gi_wp2_with fail
            refine⟨trivial,?_⟩;have HJ2:=Lib.hid (join_walk p.2.1 true v2 hsz2 _ (HGL.out _ hgr3));refine CallsIn.mono (CallsIn.inRound l' ((callsIn_wide (n:=2)).2 HJ2.out)) ?_
            rintro e W5 ⟨rfl,hb5⟩
            have hb15:=hb14.belowS hb5;have hb25:=hb24.belowS hb5;have co52:W5.cell? ⟨wr.heap.size+1,0,none⟩=some (.string v2):=hb25.cell rfl;have cf5:=hb25.free 0;have hg5:(W3.setCell ⟨wr.heap.size,0,none⟩ (.string (joinS (p.2.1,true) v1))).grownBy (W5.setCell ⟨wr.heap.size+1,0,none⟩ (.string (joinS (p.2.1,true) v2))) (some (wr.heap.size+1)):=grown_trans (below_grown (B:=0) hb5 _) (grown_setCells (b:=wr.heap.size+1) [_] 0 W5);have hgr5:=(Two.one (O2:=wr.heap.size+1) hg3).trans (Two.two (O1:=wr.heap.size) hg5)
            gi_wp2
            refine⟨keeps_two hgr5 (by omega) (by omega),?_,?_,?_,hgr.trans hgr5⟩
            ·intro k' hk';exact hgr5.block k' (by have:=hgr.size;omega) hk'.2.1 hk'.2.2
            ·rw[valF_snoc,HVV.out.1];have ej:joinF p.2 v1=joinS (p.2.1,true) v1:=by unfold joinF;rw[if_pos hp2, <-hp2]
             rw[ej];exact hb15.set_other ⟨wr.heap.size+1,0,none⟩ (by simp) _
            ·rw[valS_snoc,HVV.out.2];have ej:joinS p.2 v2=joinS (p.2.1,true) v2:=by rw[<-hp2]
             rw[ej];exact hb25.set 0 _
           ·have hp2':p.2.2=false:=by simpa using hp2
            rw[hp2'] at cb1;simp only[boxAct,pairS];simp
            gi_wp2_with fail
            refine⟨trivial,?_⟩;have HJ:=Lib.hid (join_walk p.2.1 false v2 hsz2 V (HGL.out V hgr));refine CallsIn.mono (CallsIn.inRound l' ((callsIn_wide (n:=2)).2 HJ.out)) ?_
            rintro e W3 ⟨rfl,hb3⟩
            have hb13:=hbV1.belowS hb3;have hb23:=hbV2.belowS hb3;have hg3:V.grownBy (W3.setCell ⟨wr.heap.size+1,0,none⟩ (.string (joinS (p.2.1,false) v2))) (some (wr.heap.size+1)):=grown_trans (below_grown (B:=0) hb3 _) (grown_setCells (b:=wr.heap.size+1) [_] 0 W3);have hgr3:=Two.two (O1:=wr.heap.size) hg3;have co31:W3.cell? ⟨wr.heap.size+1,0,none⟩=some (.string v2):=hb23.cell rfl;have cf3:=hb23.free 0
            gi_wp2
            refine⟨keeps_two hgr3 (by omega) (by omega),?_,?_,?_,hgr.trans hgr3⟩
            ·intro k' hk';exact hgr3.block k' (by have:=hgr.size;omega) hk'.2.1 hk'.2.2
            ·rw[valF_snoc,HVV.out.1];have ej:joinF p.2 v1=v1:=by unfold joinF;rw[if_neg hp2]
             rw[ej];exact hb13.set_other ⟨wr.heap.size+1,0,none⟩ (by simp) _
            ·rw[valS_snoc,HVV.out.2];have ej:joinS p.2 v2=joinS (p.2.1,false) v2:=by rw[<-hp2']
             rw[ej];exact hb23.set 0 _
          case done=>
           rintro D V hD ⟨hbV1,hbV2,hgr⟩ hK
           rw[valF_all] at hbV1;rw[valS_all] at hbV2;obtain⟨v1,hv1⟩:∃v,W.foldr joinF old=v:=⟨_,rfl⟩
           obtain⟨v2,hv2⟩:∃v,W.foldr joinS old=v:=⟨_,rfl⟩
           rw[hv1] at hbV1;rw[hv2] at hbV2;have co1:V.cell? ⟨wr.heap.size,0,none⟩=some (.string v1):=hbV1.cell rfl;have co2:V.cell? ⟨wr.heap.size+1,0,none⟩=some (.string v2):=hbV2.cell rfl;have HVV:=Lib.hid (And.intro hv1 hv2);clear hv1 hv2 hgiv
           by_cases hm0:j=0
           ·have dm:((j:Int)==0)=true:=by simp[hm0]
            have HM0:=Lib.hid hm0;clear hm0
            by_cases h1:v1=old
            ·have ds1:(v1.toList==old.toList)=true:=by rw[h1];simp
             have H1:=Lib.hid h1;clear h1
             go_wp2
             refine⟨by simp,.inl ⟨_,_,rfl,run_takeDeferred hK,?_⟩⟩;have hgs:=hgr.size;refine⟨_,results_tmp rfl _ _ _,?_,?_⟩
             ·rw[HV.out.1,HV1.out];have hnil:(l.take j).reverse=[]:=by rw[HM0.out];rfl
              rw[if_pos hnil]
              show Ending.returned (.bool (v2.toList==root.toList))=_
              rw[str_eq, <-HVV.out.2];simp[HVV.out.1,H1.out]
             ·have b2:Below w.heap.size w V:=hgr.toBelow HGW.out.2 (by omega) (by omega) (by omega);exact b2.trans (belowK_b (w:=w) (Nat.le_refl _) V D _ _ (by omega) hK rfl rfl)
            ·have ds1:(v1.toList==old.toList)=false:=by rw[str_eq];exact decide_eq_false h1
             have H1:=Lib.hid h1;clear h1
             go_wp2
             refine⟨by simp,.inl ⟨_,_,rfl,run_takeDeferred hK,?_⟩⟩;have hgs:=hgr.size;refine⟨_,results_tmp rfl _ _ _,?_,?_⟩
             ·rw[HV.out.1,HV1.out];have hnil:(l.take j).reverse=[]:=by rw[HM0.out];rfl
              rw[if_pos hnil];simp[HVV.out.1,H1.out]
             ·have b2:Below w.heap.size w V:=hgr.toBelow HGW.out.2 (by omega) (by omega) (by omega);exact b2.trans (belowK_b (w:=w) (Nat.le_refl _) V D _ _ (by omega) hK rfl rfl)
           ·have dm:((j:Int)==0)=false:=by simp;omega
            have HM0:=Lib.hid hm0;clear hm0
            go_wp2
            refine⟨by simp,.inl ⟨_,_,rfl,run_takeDeferred hK,?_⟩⟩;have hgs:=hgr.size;refine⟨_,results_tmp rfl _ _ _,?_,?_⟩
            ·rw[HV.out.1,HV1.out];have hnil:¬(l.take j).reverse=[]:=by
              intro h;have:=congrArg List.length h;rw[List.length_reverse,List.length_take,HLR.out.1] at this;have:=HM0.out;simp at*
              omega
             rw[if_neg hnil];rfl
            ·have b2:Below w.heap.size w V:=hgr.toBelow HGW.out.2 (by omega) (by omega) (by omega);exact b2.trans (belowK_b (w:=w) (Nat.le_refl _) V D _ _ (by omega) hK rfl rfl)
         |false=>
          have hv1:=hval.out;rw[Tree.both_part (nd:=dN) (old:=old) (Nat.le_refl m')] at hv1;have HV1:=Lib.hid hv1;clear hv1
          by_cases hj1:j=1
          ·subst hj1;have dj:(((1:Nat):Int) !=1)=false:=by decide
           obtain⟨x,hx⟩:∃x,l[0]?=some x:=⟨l[0]'(by rw[HLR.out.1];omega),List.getElem?_eq_getElem _⟩
           obtain⟨ad,hA,_⟩:=HLR.out.2.2.2 (by omega);subst hA;have hcell:wr.cell? (ad.add 0)=some (.string x):=by
            have h0:=strs_cell HLR.out.2 hx;rw[hbel.cell (World.block_lt_of_cell? w _ h0)];exact h0
           have HX:=Lib.hid hx;clear hx
           go_wp2_with (first |fail)
           have hlt1:=World.block_lt_of_cell? _ _ hcell;have hck:∀o1 o2:Obj,((wr.alloc o1).alloc o2).cell? ad=some (.string x):=by
            intro o1 o2;exact ((((Below.refl wr.heap.size wr).alloc (Nat.le_refl _) o1).alloc (by simp) o2).cell hlt1).trans hcell
           refine wp_region_noPanic ?_
           go_region_held3 (fun w'=>w'.cell? ad=some (.string x)) (first |exact hck _ _ |fail) (first |fail)
           refine NoPanic.normal ?_
           go_wp2_with (first |(go_at_call 88;refine (backS_walk _ _ _ _).mono ?_;rintro e w9 ⟨rfl,rfl⟩) |fail)
           have hB1:Blk ((((wr.alloc (.cells #[.string x] 9)).alloc (.cells #[.string x] 9)).alloc (.cells #[.slice A' q c'] 129)).drew) wr.heap.size 9 [.string x]:=(((Blk.newA _ _ _ _ rfl).alloc _).alloc _).drew;have hB2:Blk ((((wr.alloc (.cells #[.string x] 9)).alloc (.cells #[.string x] 9)).alloc (.cells #[.slice A' q c'] 129)).drew) (wr.heap.size+1) 9 [.string x]:=((cast_blk (Blk.newA _ _ _ _ rfl) (by simp)).alloc _).drew;have hB0:Blk ((((wr.alloc (.cells #[.string x] 9)).alloc (.cells #[.string x] 9)).alloc (.cells #[.slice A' q c'] 129)).drew) (wr.heap.size+2) 129 [.slice A' q c']:=(cast_blk (Blk.newA _ _ _ _ rfl) (by simp)).drew;have hbW0:Below wr.heap.size wr (((wr.alloc (.cells #[.string x] 9)).alloc (.cells #[.string x] 9)).alloc (.cells #[.slice A' q c'] 129)):=(((Below.refl _ _).alloc (Nat.le_refl _) _).alloc (by simp) _).alloc (by simp;omega) _;have hbW:Below wr.heap.size wr ((((wr.alloc (.cells #[.string x] 9)).alloc (.cells #[.string x] 9)).alloc (.cells #[.slice A' q c'] 129)).drew):=⟨hbW0.os,hbW0.tape,hbW0.output,hbW0.size,hbW0.block⟩;have HOLD:=Lib.hid (HDS.out.1 x (List.mem_of_getElem? HX.out));clear hck hlt1 hcell hbW0;generalize ((((wr.alloc (.cells #[.string x] 9)).alloc (.cells #[.string x] 9)).alloc (.cells #[.slice A' q c'] 129)).drew)=WW at*
           have hgiv:=side_gives2 HQ.out (by omega) HO.out _ (wr.heap.size+2) hB0 hbW (KS:=fun k=>k<WW.heap.size∧k≠wr.heap.size∧k≠wr.heap.size+1) (fun k hk=>by rcases hk with rfl |hk;exact⟨hB0.lt,by omega,by omega⟩;exact⟨Nat.lt_of_lt_of_le hk hbW.size,by omega,by omega⟩);have hbWw:Below w.heap.size w WW:=hbel.trans (hbW.mono (by omega));have hGW0:=HG.out.below hbWw;have HGW:=Lib.hid (And.intro hGW0 hbWw);have hsz0:=hB0.lt;clear hGW0 hbWw hB0;refine wp_rangeFunc_box (d:=20) (T:=133) (gf:=103) (lb:= #[.pointer (some ⟨wr.heap.size+2,0,none⟩)]) rfl (enters_of Tryd.func103 (by kernel_rfl) rfl) (KS:=fun k=>k<WW.heap.size∧k≠wr.heap.size∧k≠wr.heap.size+1) (fun k hk=>hk.1) hgiv (Below.refl _ _) (fun _=>rfl)
            (fun p=>[.string p.2.1,.bool p.2.2]) ?assign (fun pre V=>Blk V wr.heap.size 9 [.string (valF x pre)]∧Blk V (wr.heap.size+1) 9 [.string (valS x pre)]∧Two wr.heap.size (wr.heap.size+1) WW V) (OwnFrom.and (own_blk _ (by omega)) (OwnFrom.and (own_blk _ (by omega)) (own_two (Nat.le_refl _)))) ⟨hB1,hB2,Two.refl _ _ _⟩ ?body ?done
           case assign=>
            intro l' p V K hK;have hK':=Lib.hid hK;clear hK hgiv;simp only[pairS]
            gi_wp2
            have h:=hK'.out;simp[boxAct,pairS] at h;exact h
           case body=>
            intro l' pre p B V hI hBlk hBs hpre;obtain⟨hbV1,hbV2,hgr⟩:=hI;have hpW:p.2 ∈ W:=by
             have h1:p ∈ backs (⟨#[]⟩,false) W:=hpre.subset (by simp);have h2:p.2 ∈ (backs (⟨#[]⟩,false) W).map (·.2):=List.mem_map.2 ⟨p,h1,rfl⟩;rw[backs_snd,List.mem_reverse] at h2;exact h2
            have hp32:=hw32.out p.2 hpW;have hv132:=valF_size x HOLD.out pre;have hv232:=valS_size x HOLD.out pre;obtain⟨v1,hv1⟩:∃v,valF x pre=v:=⟨_,rfl⟩
            obtain⟨v2,hv2⟩:∃v,valS x pre=v:=⟨_,rfl⟩
            rw[hv1] at hbV1 hv132;rw[hv2] at hbV2 hv232;have HVV:=Lib.hid (And.intro hv1 hv2);have hsz1:p.2.1.size+v1.size<=140737488349000:=by omega
            have hsz2:p.2.1.size+v2.size<=140737488349000:=by omega
            have hGL:∀V',Two wr.heap.size (wr.heap.size+1) WW V'->GL V':=by
             intro V' hgr' i hi';have h0:=HGW.out.1 i hi';have hlt:=World.block_lt_of_cell? WW _ h0;have hlw:=World.block_lt_of_cell? w _ (HG.out i hi');have h1:=hgr'.block 0 (by simpa using hlt) (by simp only at hlw;omega) (by simp only at hlw;omega);rw[World.cell?_of_block (a:=⟨0,i,none⟩) h1];exact h0
            have HGL:=Lib.hid hGL;have cb0:V.cell? ⟨B,0,none⟩=some (.string p.2.1):=hBlk.cell rfl;have cb1:V.cell? ⟨B,1,none⟩=some (.bool p.2.2):=hBlk.cell rfl;have co1:V.cell? ⟨wr.heap.size,0,none⟩=some (.string v1):=hbV1.cell rfl;have co2:V.cell? ⟨wr.heap.size+1,0,none⟩=some (.string v2):=hbV2.cell rfl;clear hpre hgiv hv132 hv232 hp32 hv1 hv2 hGL hpW;have hBne1:B≠wr.heap.size:=by omega
            have hBne2:B≠wr.heap.size+1:=by omega
            by_cases hp2:p.2.2=true
            ·rw[hp2] at cb1;simp only[boxAct,pairS];simp
             gi_wp2_with fail
             refine⟨trivial,?_⟩;have HJ:=Lib.hid (join_walk p.2.1 true v1 hsz1 V (HGL.out V hgr));refine CallsIn.mono (CallsIn.inRound l' ((callsIn_wide (n:=2)).2 HJ.out)) ?_
             rintro e W3 ⟨rfl,hb3⟩
             have hb13:=hbV1.belowS hb3;have hb23:=hbV2.belowS hb3;have hB3:=hBlk.belowS hb3;have hg3:V.grownBy (W3.setCell ⟨wr.heap.size,0,none⟩ (.string (joinS (p.2.1,true) v1))) (some wr.heap.size):=grown_trans (below_grown (B:=0) hb3 _) (grown_setCells (b:=wr.heap.size) [_] 0 W3);have hgr3:=hgr.trans (Two.one (O2:=wr.heap.size+1) hg3);have hb14:=hb13.set 0 (.string (joinS (p.2.1,true) v1));have hb24:=hb23.set_other ⟨wr.heap.size,0,none⟩ (by simp) (.string (joinS (p.2.1,true) v1));have hB4:=hB3.set_other ⟨wr.heap.size,0,none⟩ hBne1 (.string (joinS (p.2.1,true) v1));have cb30:(W3.setCell ⟨wr.heap.size,0,none⟩ (.string (joinS (p.2.1,true) v1))).cell? ⟨B,0,none⟩=some (.string p.2.1):=hB4.cell rfl;have cb31:(W3.setCell ⟨wr.heap.size,0,none⟩ (.string (joinS (p.2.1,true) v1))).cell? ⟨B,1,none⟩=some (.bool true):=hB4.cell (by rw[<-hp2];rfl);have co32:(W3.setCell ⟨wr.heap.size,0,none⟩ (.string (joinS (p.2.1,true) v1))).cell? ⟨wr.heap.size+1,0,none⟩=some (.string v2):=hb24.cell rfl;have co31:W3.cell? ⟨wr.heap.size,0,none⟩=some (.string v1):=hb13.cell rfl;have cf3:=hb13.free 0
             gi_wp2_with fail
             refine⟨trivial,?_⟩;have HJ2:=Lib.hid (join_walk p.2.1 true v2 hsz2 _ (HGL.out _ hgr3));refine CallsIn.mono (CallsIn.inRound l' ((callsIn_wide (n:=2)).2 HJ2.out)) ?_
             rintro e W5 ⟨rfl,hb5⟩
             have hb15:=hb14.belowS hb5;have hb25:=hb24.belowS hb5;have co52:W5.cell? ⟨wr.heap.size+1,0,none⟩=some (.string v2):=hb25.cell rfl;have cf5:=hb25.free 0;have hg5:(W3.setCell ⟨wr.heap.size,0,none⟩ (.string (joinS (p.2.1,true) v1))).grownBy (W5.setCell ⟨wr.heap.size+1,0,none⟩ (.string (joinS (p.2.1,true) v2))) (some (wr.heap.size+1)):=grown_trans (below_grown (B:=0) hb5 _) (grown_setCells (b:=wr.heap.size+1) [_] 0 W5);have hgr5:=(Two.one (O2:=wr.heap.size+1) hg3).trans (Two.two (O1:=wr.heap.size) hg5)
             gi_wp2
             refine⟨keeps_two hgr5 (by omega) (by omega),?_,?_,?_,hgr.trans hgr5⟩
             ·intro k' hk';exact hgr5.block k' (by have:=hgr.size;omega) hk'.2.1 hk'.2.2
             ·rw[valF_snoc,HVV.out.1];have ej:joinF p.2 v1=joinS (p.2.1,true) v1:=by unfold joinF;rw[if_pos hp2, <-hp2]
              rw[ej];exact hb15.set_other ⟨wr.heap.size+1,0,none⟩ (by simp) _
             ·rw[valS_snoc,HVV.out.2];have ej:joinS p.2 v2=joinS (p.2.1,true) v2:=by rw[<-hp2]
              rw[ej];exact hb25.set 0 _
            ·have hp2':p.2.2=false:=by simpa using hp2
             rw[hp2'] at cb1;simp only[boxAct,pairS];simp
             gi_wp2_with fail
             refine⟨trivial,?_⟩;have HJ:=Lib.hid (join_walk p.2.1 false v2 hsz2 V (HGL.out V hgr));refine CallsIn.mono (CallsIn.inRound l' ((callsIn_wide (n:=2)).2 HJ.out)) ?_
             rintro e W3 ⟨rfl,hb3⟩
             have hb13:=hbV1.belowS hb3;have hb23:=hbV2.belowS hb3;have hg3:V.grownBy (W3.setCell ⟨wr.heap.size+1,0,none⟩ (.string (joinS (p.2.1,false) v2))) (some (wr.heap.size+1)):=grown_trans (below_grown (B:=0) hb3 _) (grown_setCells (b:=wr.heap.size+1) [_] 0 W3);have hgr3:=Two.two (O1:=wr.heap.size) hg3;have co31:W3.cell? ⟨wr.heap.size+1,0,none⟩=some (.string v2):=hb23.cell rfl;have cf3:=hb23.free 0
             gi_wp2
             refine⟨keeps_two hgr3 (by omega) (by omega),?_,?_,?_,hgr.trans hgr3⟩
             ·intro k' hk';exact hgr3.block k' (by have:=hgr.size;omega) hk'.2.1 hk'.2.2
             ·rw[valF_snoc,HVV.out.1];have ej:joinF p.2 v1=v1:=by unfold joinF;rw[if_neg hp2]
              rw[ej];exact hb13.set_other ⟨wr.heap.size+1,0,none⟩ (by simp) _
             ·rw[valS_snoc,HVV.out.2];have ej:joinS p.2 v2=joinS (p.2.1,false) v2:=by rw[<-hp2']
              rw[ej];exact hb23.set 0 _
           case done=>
            rintro D V hD ⟨hbV1,hbV2,hgr⟩ hK
            rw[valF_all] at hbV1;rw[valS_all] at hbV2;obtain⟨v1,hv1⟩:∃v,W.foldr joinF x=v:=⟨_,rfl⟩
            obtain⟨v2,hv2⟩:∃v,W.foldr joinS x=v:=⟨_,rfl⟩
            rw[hv1] at hbV1;rw[hv2] at hbV2;have co1:V.cell? ⟨wr.heap.size,0,none⟩=some (.string v1):=hbV1.cell rfl;have co2:V.cell? ⟨wr.heap.size+1,0,none⟩=some (.string v2):=hbV2.cell rfl;have HVV:=Lib.hid (And.intro hv1 hv2);clear hv1 hv2 hgiv
            by_cases h1:v1=old
            ·have ds1:(v1.toList==old.toList)=true:=by rw[h1];simp
             have H1:=Lib.hid h1;clear h1
             go_wp2
             refine⟨by simp,.inl ⟨_,_,rfl,run_takeDeferred hK,?_⟩⟩;have hgs:=hgr.size;refine⟨_,results_tmp rfl _ _ _,?_,?_⟩
             ·rw[HV.out.1,HV1.out];have hnil:(l.take 1).reverse=[x]:=by
                have:=HX.out;rw[List.take_add_one,this];rfl
              rw[hnil]
              show Ending.returned (.bool (v2.toList==root.toList))=_
              rw[str_eq, <-HVV.out.2];simp[HVV.out.1,H1.out]
             ·have b2:Below w.heap.size w V:=hgr.toBelow HGW.out.2 (by omega) (by omega) (by omega);exact b2.trans (belowK_b (w:=w) (Nat.le_refl _) V D _ _ (by omega) hK rfl rfl)
            ·have ds1:(v1.toList==old.toList)=false:=by rw[str_eq];exact decide_eq_false h1
             have H1:=Lib.hid h1;clear h1
             go_wp2
             refine⟨by simp,.inl ⟨_,_,rfl,run_takeDeferred hK,?_⟩⟩;have hgs:=hgr.size;refine⟨_,results_tmp rfl _ _ _,?_,?_⟩
             ·rw[HV.out.1,HV1.out];have hnil:(l.take 1).reverse=[x]:=by
                have:=HX.out;rw[List.take_add_one,this];rfl
              rw[hnil];simp[HVV.out.1,H1.out]
             ·have b2:Below w.heap.size w V:=hgr.toBelow HGW.out.2 (by omega) (by omega) (by omega);exact b2.trans (belowK_b (w:=w) (Nat.le_refl _) V D _ _ (by omega) hK rfl rfl)
          ·have dj:((j:Int) !=1)=true:=by simp;omega
           have HJ1:=Lib.hid hj1;clear hj1
           go_wp2_with (first |fail)
           refine⟨_,results_tmp rfl _ _ _,?_,?_⟩
           ·rw[HV.out.1,HV1.out];have hne:∀x,¬(l.take j).reverse=[x]:=by
             intro x h;have:=congrArg List.length h;rw[List.length_reverse,List.length_take,HLR.out.1] at this;have:=HJ1.out;simp at*
             omega
            split
            ·rename_i x h;exact absurd h (hne x)
            ·rfl
           ·exact ((hbel.alloc (by omega) _).alloc (by simp;omega) _)
    ·have er:((root.size:Int)==32)=false:=by simp;omega
     have hv:extB old m root n l=false:=by unfold extB dig32;simp[hrt]
     have HV:=Lib.hid (And.intro hv h32);clear hv h32 ho hrt;refine calls_of_wp_marks Tryd.func73 rfl ?_;simp only[Tryd.ntmps73,List.size_toArray,List.length_cons,List.length_nil,Nat.reduceAdd,Nat.reduceSub,Array.replicate_succ,Array.replicate_zero,List.push_toArray,List.append_toArray,List.nil_append,List.cons_append]
     go_wp2_with (first |(go_at_call 86;have hq:=HALL.out _ HR.out;rw[HV.out.2] at hq;refine hq.mono ?_;rintro e w' ⟨rfl,hw'⟩;obtain rfl:=hw'.symm) |(go_at_call 90;refine (isDigest_walk old ho1 _).mono ?_;rintro e w' ⟨rfl,hw'⟩;obtain rfl:=hw'.symm) |(go_at_call 90;refine (isDigest_walk root hr1 _).mono ?_;rintro e w' ⟨rfl,hw'⟩;obtain rfl:=hw'.symm) |fail)
     refine⟨_,results_tmp rfl _ _ _,?_,Below.refl _ _⟩;rw[HV.out.1];rfl
   ·have eo:((old.size:Int)==32)=false:=by simp;omega
    have hv:extB old m root n l=false:=by unfold extB;simp[dig32,ho]
    have HV:=Lib.hid (And.intro hv h32);clear hv h32 ho;refine calls_of_wp_marks Tryd.func73 rfl ?_;simp only[Tryd.ntmps73,List.size_toArray,List.length_cons,List.length_nil,Nat.reduceAdd,Nat.reduceSub,Array.replicate_succ,Array.replicate_zero,List.push_toArray,List.append_toArray,List.nil_append,List.cons_append]
    go_wp2_with (first |(go_at_call 86;have hq:=HALL.out _ HR.out;rw[HV.out.2] at hq;refine hq.mono ?_;rintro e w' ⟨rfl,hw'⟩;obtain rfl:=hw'.symm) |(go_at_call 90;refine (isDigest_walk old ho1 _).mono ?_;rintro e w' ⟨rfl,hw'⟩;obtain rfl:=hw'.symm) |(go_at_call 90;refine (isDigest_walk root hr1 _).mono ?_;rintro e w' ⟨rfl,hw'⟩;obtain rfl:=hw'.symm) |fail)
    refine⟨_,results_tmp rfl _ _ _,?_,Below.refl _ _⟩;rw[HV.out.1];rfl
  ·have hv:extB old m root n l=false:=by unfold extB;simp[h32]
   have h32':l.all dig32=false:=by simpa using h32
   have HV:=Lib.hid (And.intro hv h32');clear hv h32 h32';refine calls_of_wp_marks Tryd.func73 rfl ?_;simp only[Tryd.ntmps73,List.size_toArray,List.length_cons,List.length_nil,Nat.reduceAdd,Nat.reduceSub,Array.replicate_succ,Array.replicate_zero,List.push_toArray,List.append_toArray,List.nil_append,List.cons_append]
   go_wp2_with (first |(go_at_call 86;have hq:=HALL.out _ HR.out;rw[HV.out.2] at hq;refine hq.mono ?_;rintro e w' ⟨rfl,hw'⟩;obtain rfl:=hw'.symm) |(go_at_call 90;refine (isDigest_walk old ho1 _).mono ?_;rintro e w' ⟨rfl,hw'⟩;obtain rfl:=hw'.symm) |(go_at_call 90;refine (isDigest_walk root hr1 _).mono ?_;rintro e w' ⟨rfl,hw'⟩;obtain rfl:=hw'.symm) |fail)
   refine⟨_,results_tmp rfl _ _ _,?_,Below.refl _ _⟩;rw[HV.out.1];rfl
 ·have hv:extB old m root n l=false:=by unfold extB;simp[hin]
  have HV:=Lib.hid (And.intro hv trivial);clear hv
  by_cases h0:m<0
  ·have d1:decide (m<0)=true:=decide_eq_true h0;refine calls_of_wp_marks Tryd.func73 rfl ?_;simp only[Tryd.ntmps73,List.size_toArray,List.length_cons,List.length_nil,Nat.reduceAdd,Nat.reduceSub,Array.replicate_succ,Array.replicate_zero,List.push_toArray,List.append_toArray,List.nil_append,List.cons_append]
   go_wp2
   refine⟨_,results_tmp rfl _ _ _,?_,Below.refl _ _⟩;rw[HV.out.1];rfl
  ·have d1:decide (m<0)=false:=decide_eq_false h0;have d2:decide (n<m)=true:=decide_eq_true (by omega);refine calls_of_wp_marks Tryd.func73 rfl ?_;simp only[Tryd.ntmps73,List.size_toArray,List.length_cons,List.length_nil,Nat.reduceAdd,Nat.reduceSub,Array.replicate_succ,Array.replicate_zero,List.push_toArray,List.append_toArray,List.nil_append,List.cons_append]
   go_wp2
   refine⟨_,results_tmp rfl _ _ _,?_,Below.refl _ _⟩;rw[HV.out.1];rfl
end Go.Proofs.YtfdlmpicmkpabaaDoor.Ext
end
section
namespace Go.Proofs.YtfdlmpicmkpabaaDoor.Ext
set_option maxRecDepth 100000
open Go.RowKit Go.Proofs.YtfdlmpicmkpabaaDoorW.PrintWords Go.Proofs.YtfdlmpicmkpabaaDoorW.PrintLast Go.Proofs.YtfdlmpicmkpabaaDoorW.PrintMore
def fits(l:List ByteArray):Prop:=l.length<=1000000∧∀x ∈ l,x.size<=140737488349000
instance (l:List ByteArray):Decidable (fits l):=by unfold fits;infer_instance
def digest_left.f(a0:Int):Option Int:=if 2<=a0∧a0<=9223372036854775807 then some ((Tree.left a0.toNat:Nat):Int) else none
def digest_Root.f(l0:List ByteArray):Option ByteArray:=if fits l0 then some (Tree.root dE dL dN l0) else none
theorem digest_Root.calls(A0:Option Addr)(c0:Nat)(l0:List ByteArray)(r:ByteArray)(w:World)(hr0:Kd.C Kd.string w A0 l0.length l0)(hc0:l0.length<=c0)(hG:GL w)(h:digest_Root.f l0=some r):
  Calls Tryd.prog 49 #[.slice A0 l0.length c0] w fun e w'=>e=.returned (.string r)∧Below w.heap.size w w':=by
 unfold digest_Root.f at h
 split at h
 ·rename_i hc;obtain rfl:=Option.some.inj h;exact Root_walk A0 c0 l0 w hG hr0 hc0 hc.1 hc.2
 ·cases h
def digest_Sum.f(a0:ByteArray):Option ByteArray:=if a0.size<=140737488350000 then some (str (Sha.sha (nat a0))) else none
def digest_Leaf.f(a0:ByteArray):Option ByteArray:=if a0.size<=140737488349000 then some (dL a0) else none
theorem digest_Leaf.calls(a0:ByteArray)(r:ByteArray)(w:World)(hG:GL w)(h:digest_Leaf.f a0=some r):
  Calls Tryd.prog 78 #[.string a0] w fun e w'=>e=.returned (.string r)∧Below w.heap.size w w':=by
 unfold digest_Leaf.f at h
 split at h
 ·rename_i hc;obtain rfl:=Option.some.inj h;exact Leaf_walk a0 hc w hG
 ·cases h
def digest_Verify.f(a0:ByteArray)(a1 a2:Int)(a3:ByteArray)(l4:List ByteArray):Option Bool:=if (fits l4∧a3.size<=140737488349000)∧(-9223372036854775808<=a1∧a1<=9223372036854775807)∧(-9223372036854775808<=a2∧a2<=9223372036854775807) then some (verifyB a0 a1 a2 a3 l4) else none
theorem digest_Verify.calls(a0:ByteArray)(a1 a2:Int)(a3:ByteArray)(A4:Option Addr)(c4:Nat)(l4:List ByteArray)(r:Bool)(w:World)(hr4:Kd.C Kd.string w A4 l4.length l4)(hc4:l4.length<=c4)(hG:GL w)(h:digest_Verify.f a0 a1 a2 a3 l4=some r):
  Calls Tryd.prog 68 #[.string a0,.int .i64 a1,.int .i64 a2,.string a3,.slice A4 l4.length c4] w fun e w'=>e=.returned (.bool r)∧Below w.heap.size w w':=by
 unfold digest_Verify.f at h
 split at h
 ·rename_i hc;obtain rfl:=Option.some.inj h;exact Verify_walk a0 a1 a2 a3 A4 c4 l4 w hG hr4 hc4 hc.1.1.1 (fun x hx=>Nat.le_trans (hc.1.1.2 x hx) (by omega)) hc.2.1.1 hc.2.1.2 hc.2.2.1 hc.2.2.2 hc.1.2
 ·cases h
def digest_VerifyExtension.f(a0:ByteArray)(a1:Int)(a2:ByteArray)(a3:Int)(l4:List ByteArray):Option Bool:=if (fits l4∧a0.size<=9223372036854775807∧a2.size<=9223372036854775807)∧(-9223372036854775808<=a1∧a1<=9223372036854775807)∧(-9223372036854775808<=a3∧a3<=9223372036854775807) then some (extB a0 a1 a2 a3 l4) else none
theorem digest_VerifyExtension.calls(a0:ByteArray)(a1:Int)(a2:ByteArray)(a3:Int)(A4:Option Addr)(c4:Nat)(l4:List ByteArray)(r:Bool)(w:World)(hr4:Kd.C Kd.string w A4 l4.length l4)(hc4:l4.length<=c4)(hG:GL w)(h:digest_VerifyExtension.f a0 a1 a2 a3 l4=some r):
  Calls Tryd.prog 73 #[.string a0,.int .i64 a1,.string a2,.int .i64 a3,.slice A4 l4.length c4] w fun e w'=>e=.returned (.bool r)∧Below w.heap.size w w':=by
 unfold digest_VerifyExtension.f at h
 split at h
 ·rename_i hc;obtain rfl:=Option.some.inj h;exact VerifyExtension_walk a0 a1 a2 a3 A4 c4 l4 w hG hr4 hc4 hc.1.1.1 (fun x hx=>Nat.le_trans (hc.1.1.2 x hx) (by omega)) hc.2.2.1 hc.2.2.2 hc.2.1.1 hc.2.1.2 hc.1.2.1 hc.1.2.2
 ·cases h
def digest_Node.f(a0 a1:ByteArray):Option ByteArray:=if a0.size+a1.size<=140737488349000 then some (hash (⟨#[1]⟩++(a0++a1))) else none
theorem digest_Node.calls(a0 a1:ByteArray)(r:ByteArray)(w:World)(hG:GL w)(h:digest_Node.f a0 a1=some r):
  Calls Tryd.prog 77 #[.string a0,.string a1] w fun e w'=>e=.returned (.string r)∧Below w.heap.size w w':=by
 unfold digest_Node.f at h
 split at h
 ·rename_i hc;obtain rfl:=Option.some.inj h;exact Node_walk a0 a1 hc w hG
 ·cases h
end Go.Proofs.YtfdlmpicmkpabaaDoor.Ext
end
section
namespace Go.Proofs.YtfdlmpicmkpabaaDoor.PQ
open Go.Proofs.YtfdlmpicmkpabaaDoor.Ext
attribute [local go_sem] u32_signed u32_max
open Go.RowKit Go.Proofs.YtfdlmpicmkpabaaDoorW.PrintWords Go.Proofs.YtfdlmpicmkpabaaDoorW.PrintLast Go.Proofs.YtfdlmpicmkpabaaDoorW.PrintMore
attribute [local go_sem] max2_int min2_int max_two min_two max_three min_three max_four min_four -- for this text's walks alone
def errW:Option Int->Value
 |none=>.nilIface
 |some c=>.iface 0 (.int .i64 c)
theorem errW_none:errW none=.nilIface:=rfl
theorem errW_some(c:Int):errW (some c)=.iface 0 (.int .i64 c):=rfl
end Go.Proofs.YtfdlmpicmkpabaaDoor.PQ
end
section
namespace Go.Proofs.YtfdlmpicmkpabaaDoor.PQ
open Go.Proofs.YtfdlmpicmkpabaaDoor.Ext
attribute [local go_sem] u32_signed u32_max
open Go.RowKit Go.Proofs.YtfdlmpicmkpabaaDoorW.PrintWords Go.Proofs.YtfdlmpicmkpabaaDoorW.PrintLast Go.Proofs.YtfdlmpicmkpabaaDoorW.PrintMore
attribute [local go_sem] max2_int min2_int max_two min_two max_three min_three max_four min_four -- for this text's walks alone
def slices_Reverse_string_string.l0:Nat->List ByteArray->Int->Int->Option (List ByteArray)
 |0,_,_,_=>none
 |k+1,x0,x2,x3=>if x2<x3 then (if 0<=x3 then (if x3<(x0.length:Int) then (if 0<=x2 then (if x2<(x0.length:Int) then (slices_Reverse_string_string.l0 k ((x0.set (x2:Int).toNat (rdOf ByteArray.empty x0 x3)).set (x3:Int).toNat (rdOf ByteArray.empty x0 x2)) (wrap64 (x2+1)) (wrap64 (x3 - 1))) else (none)) else (none)) else (none)) else (none)) else (some x0)
def slices_Reverse_string_string.f(k:Nat)(l0:List ByteArray):Option (List ByteArray):=slices_Reverse_string_string.l0 k l0 0 (wrap64 ((l0.length:Int) - 1))
def slices_Reverse_string_string.T3:Bool × List (List Nat × List Nat):=(true,[([],[]),([],[]),([],[]),([],[]),([],[]),([],[]),([4,5],[4,5]),([6],[6]),([],[]),([],[]),([8,9],[8,9]),([10],[10]),([0,1,0,1,4,5,6,7,11],[0,1]),([12,7,0,1,4,5,6,7,11],[7,12]),([2,3,0,1,2,3,4,5,6,7,8,9,10,11,12,13],[2,3]),([14,11,13,0,1,2,3,4,5,6,7,8,9,10,11,12,13],[11,14])])
def slices_Reverse_string_string.B3:List Nat:=[0,0,0,0,0,0,48,112,0,0,768,1792,4083,8179,16383,32767]
theorem slices_Reverse_string_string.tab3:rtab .any (opsOf Tryd.f85 3)=slices_Reverse_string_string.T3:=by kernel_rfl
theorem slices_Reverse_string_string.bits3:waitsOk slices_Reverse_string_string.T3.2 slices_Reverse_string_string.B3=true:=by kernel_rfl
set_option maxHeartbeats 8000000 in
set_option maxRecDepth 100000 in
theorem slices_Reverse_string_string.calls(k:Nat)(P0_:Nat->Prop)(u9000_:Value)(l0:List ByteArray)(r:List ByteArray)(w0 w:World)(hB:Below w0.heap.size w0 w)(ho0:Kd.R Kd.string 9 w w0.heap.size P0_ u9000_ l0)(h:slices_Reverse_string_string.f k l0=some r):
  Calls Tryd.prog 85 #[u9000_] w fun e w'=>e=.returned (.tuple #[])∧Kd.R Kd.string 9 w' w0.heap.size (fun k_=>(P0_ k_∨w.heap.size<=k_)) u9000_ r∧Below w0.heap.size w0 w'∧Kept w w' (fun k_=>P0_ k_):=by
 have HO0:=Aside0.mk (show Kd.R Kd.string 9 w w0.heap.size (fun k_=>(P0_ k_∨w.heap.size<=k_)) u9000_ l0 from Kd.R_mono ho0 (fun k_ hk=>(.inl hk)));have HK:=Aside0.mk (Kept.refl w (fun k_=>P0_ k_));have HW0:=Aside0.mk hB.size;have HB:=Aside0.mk hB;clear hB;have H:(slices_Reverse_string_string.l0 k l0 0 (wrap64 ((l0.length:Int) - 1)))=some r:=h;clear h;have H':=Aside0.mk H;clear H;obtain⟨Ao2,co2,eo2⟩:=Kd.R_slice HO0.out;subst eo2
 go_enter Tryd.func85,Tryd.ntmps85
 go_wp2
 go_loopg [2,3] k (fun kq v2 v3 w'=>∃(x0_1:List ByteArray) (x2_1:Int) (x3_1:Int),v2=.int .i64 x2_1∧v3=.int .i64 x3_1∧Aside0 (slices_Reverse_string_string.l0 kq x0_1 x2_1 x3_1=some r)∧Aside0 (kq<=k)∧Aside0 (Kd.R Kd.string 9 w' w0.heap.size (fun k_=>(P0_ k_∨w.heap.size<=k_)) (.slice Ao2 l0.length co2) x0_1)∧Aside0 (Kept w w' (fun k_=>P0_ k_))∧Aside0 (Below w0.heap.size w0 w'))
 case atStart=>exact⟨(l0),(0),(wrap64 ((l0.length:Int) - 1)),(by first |rfl |(simp;done) |(simp[*];done)),(by first |rfl |(simp;done) |(simp[*];done)),H',⟨Nat.le_refl _⟩,⟨by (with_reducible repeat (first |apply Kd.R_alloc |apply Kd.R_drewN |apply Kd.R_drew));exact HO0.out⟩,⟨by repeat (first |(with_reducible first |exact HK.out |apply Kept.alloc |apply Kept.drewN |apply Kept.drew) |exact HK.out)⟩,⟨by repeat (first |(with_reducible first |exact HB.out |apply below_alloc |apply pw_below_drewN |apply below_drew1) |exact HB.out)⟩⟩
 case round=>
  clear H'
  (try clear p2)
  obtain⟨x0_1,x2_1,x3_1,rfl,rfl,HA,HK1,HO_0,HK,HB⟩:=hrel;have hl0_1:=(Kd.R_reads' HO_0.out).1;rw[hl0_1] at HO_0
  (try simp only[hl0_1])
  cases gk with
  |zero=>exact absurd HA.out (by simp[slices_Reverse_string_string.l0])
  |succ k1=>
   have H:=HA.out;clear HA;simp only[slices_Reverse_string_string.l0] at H
   by_cases c3:x2_1<x3_1
   ·rw[if_pos c3] at H;have c3b0:decide (x2_1<x3_1)=true:=decide_eq_true c3;clear c3
    by_cases c4:0<=x3_1
    ·rw[if_pos c4] at H;have c4b0:decide (0<=x3_1)=true:=decide_eq_true c4;clear c4
     by_cases c5:x3_1<(x0_1.length:Int)
     ·rw[if_pos c5] at H;have c5b0:decide (x3_1<(x0_1.length:Int))=true:=decide_eq_true c5;clear c5
      by_cases c6:0<=x2_1
      ·rw[if_pos c6] at H;have c6b0:decide (0<=x2_1)=true:=decide_eq_true c6;clear c6
       by_cases c7:x2_1<(x0_1.length:Int)
       ·rw[if_pos c7] at H;have c7b0:decide (x2_1<(x0_1.length:Int))=true:=decide_eq_true c7;clear c7;obtain⟨y103,hy103⟩:∃y_:List ByteArray,y_=(x0_1.set (x2_1:Int).toNat (rdOf ByteArray.empty x0_1 x3_1)):=⟨_,rfl⟩
        replace H:(slices_Reverse_string_string.l0 k1 (y103.set (x3_1:Int).toNat (rdOf ByteArray.empty x0_1 x2_1)) (wrap64 (x2_1+1)) (wrap64 (x3_1 - 1)))=some r:=by first |(rw[hy103];with_reducible exact H) |(have H2_:=(Option.bind_some _ _).symm.trans H;rw[hy103];with_reducible exact H2_) |(have H2_:=(Option.bind_some _ _).symm.trans H;with_reducible exact H2_) |with_reducible exact H |(rw[hy103];exact H) |exact H
        have Ny103:=Aside0.mk hy103;clear hy103;obtain⟨y104,hy104⟩:∃y_:List ByteArray,y_=(y103.set (x3_1:Int).toNat (rdOf ByteArray.empty x0_1 x2_1)):=⟨_,rfl⟩
        replace H:(slices_Reverse_string_string.l0 k1 y104 (wrap64 (x2_1+1)) (wrap64 (x3_1 - 1)))=some r:=by first |(rw[hy104];with_reducible exact H) |(have H2_:=(Option.bind_some _ _).symm.trans H;rw[hy104];with_reducible exact H2_) |(have H2_:=(Option.bind_some _ _).symm.trans H;with_reducible exact H2_) |with_reducible exact H |(rw[hy104];exact H) |exact H
        have Ny104:=Aside0.mk hy104;clear hy104;have H':=Aside0.mk H;clear H
        try go_wp2
        have n0_:=Aside0.mk (Kd.R_drew HO_0.out);have n1_:=Aside0.mk (Kept.drew HK.out);have n2_:=Aside0.mk (below_drew1 HB.out);clear HO_0;clear HK;clear HB;have HO_0:=n0_;have HK:=n1_;have HB:=n2_;clear n0_ n1_ n2_;have p101:0<=(x3_1:Int):=of_decide_eq_true (by first |(with_reducible assumption) |assumption);have q101:x3_1<(x0_1.length:Int):=of_decide_eq_true (by first |(with_reducible assumption) |assumption);obtain⟨ad101,e101,hx101_0⟩:=Kd.at_string (Kd.R_reads' HO_0.out).2.2 x3_1 p101 q101
        cases e101
        replace p101:=eq_true p101;replace q101:=eq_true q101;have p102:0<=(x2_1:Int):=of_decide_eq_true (by first |(with_reducible assumption) |assumption);have q102:x2_1<(x0_1.length:Int):=of_decide_eq_true (by first |(with_reducible assumption) |assumption);obtain⟨ad102,e102,hx102_0⟩:=Kd.at_string (Kd.R_reads' HO_0.out).2.2 x2_1 p102 q102;obtain rfl:ad101=ad102:=(by injection e102);replace p102:=eq_true p102;replace q102:=eq_true q102;have p8:0<=(x2_1:Int):=of_decide_eq_true (by first |(with_reducible assumption) |assumption);have q8:(x2_1:Int)<((x0_1.length:Int):Int):=of_decide_eq_true (by first |(with_reducible assumption) |assumption);obtain⟨go8,co8,eo8,gb8,gl8,cl8,HG8⟩:=Kd.R_form HO_0.out (by omega)
        (first |cases eo8 |(injection eo8 with ea_ en_ ec_;(first |subst ea_ |(injection ea_ with ea_;subst ea_));subst ec_;clear en_))
        have GB8:=Aside0.mk gb8;have GG8:=Aside0.mk HG8;clear gb8 gl8 HG8;have HMgo8:=Aside0.mk (show (P0_ go8∨w.heap.size<=go8) from (HO_0.out.1 _ rfl))
        (first |simp only[add_plain] at hx101_0 |skip)
        (first |simp only[add_plain] at hx102_0 |skip)
        obtain⟨hx8_0,hf8_0⟩:=Kd.R_celln (⟨#[]⟩:ByteArray) HO_0.out (x2_1:Int) p8 q8;replace p8:=eq_true p8;replace q8:=eq_true q8;have HP11:=Kd.R_putn HO_0.out (x2_1:Int) (rdOf ByteArray.empty x0_1 x3_1);rw[<-Ny103.out] at HP11;have HQ11:=Aside0.mk HP11;clear HP11;have p9:0<=(x3_1:Int):=of_decide_eq_true (by first |(with_reducible assumption) |assumption);have q9:(x3_1:Int)<((x0_1.length:Int):Int):=of_decide_eq_true (by first |(with_reducible assumption) |assumption);obtain⟨hx9_0,hf9_0⟩:=Kd.R_celln (⟨#[]⟩:ByteArray) HQ11.out (x3_1:Int) p9 q9;replace p9:=eq_true p9;replace q9:=eq_true q9;have HP12:=Kd.R_putn HQ11.out (x3_1:Int) (rdOf ByteArray.empty x0_1 x2_1);rw[<-Ny104.out] at HP12;have HQ12:=Aside0.mk HP12;clear HP12;refine start_ (n:=16) (S:=fun w'=>w'.cell? ⟨go8,(x3_1).toNat,none⟩=some (.string (rdOf ByteArray.empty x0_1 x3_1))∧w'.cell? ⟨go8,(x2_1).toNat,none⟩=some (.string (rdOf ByteArray.empty x0_1 x2_1))) (ds:=[13,15]) #[false,false,false,false,false,false,false,false,false,false,false,false,false,false,false,false] (by kernel_rfl) rfl rfl ⟨hx101_0,hx102_0⟩ (fun hHeld=>?_);refine with_tabW slices_Reverse_string_string.tab3 slices_Reverse_string_string.bits3 (fun HT_ HW_=>?_);generalize wr.drew=w10 at HO_0 HK HB GG8 HQ11 HQ12 hf8_0 hf9_0 hx101_0 hx102_0 hx8_0 hx9_0 hHeld ⊢;refine pure_ (i:=0) (N:=some 14) (v:=?_) (a':=?_) #[true,false,false,false,false,false,false,false,false,false,false,false,false,false,false,false] rfl rfl (any_of HT_.out (by kernel_rfl)) (fun _ _ _ h=>h) (Or.inl ⟨by rfl,?_⟩) ?_ ?_
        rotate_left
        ·intro w';go_simp
         with_reducible rfl
        rotate_left
        ·simp only[Act.put,List.setIfInBounds_toArray,List.set_cons_zero,List.set_cons_succ,i64_w,i32_w];rfl
        refine pure_ (i:=1) (N:=some 15) (v:=?_) (a':=?_) #[true,true,false,false,false,false,false,false,false,false,false,false,false,false,false,false] rfl rfl (any_of HT_.out (by kernel_rfl)) (fun _ _ _ h=>h) (Or.inl ⟨by rfl,?_⟩) ?_ ?_
        rotate_left
        ·intro w';go_simp
         with_reducible rfl
        rotate_left
        ·simp only[Act.put,List.setIfInBounds_toArray,List.set_cons_zero,List.set_cons_succ,i64_w,i32_w];rfl
        refine pure_ (i:=2) (N:=some 16) (v:=?_) (a':=?_) #[true,true,true,false,false,false,false,false,false,false,false,false,false,false,false,false] rfl rfl (any_of HT_.out (by kernel_rfl)) (fun _ _ _ h=>h) (Or.inl ⟨by rfl,?_⟩) ?_ ?_
        rotate_left
        ·intro w';go_simp
         with_reducible rfl
        rotate_left
        ·simp only[Act.put,List.setIfInBounds_toArray,List.set_cons_zero,List.set_cons_succ,i64_w,i32_w];rfl
        refine pure_ (i:=3) (N:=some 17) (v:=?_) (a':=?_) #[true,true,true,true,false,false,false,false,false,false,false,false,false,false,false,false] rfl rfl (any_of HT_.out (by kernel_rfl)) (fun _ _ _ h=>h) (Or.inl ⟨by rfl,?_⟩) ?_ ?_
        rotate_left
        ·intro w';go_simp
         with_reducible rfl
        rotate_left
        ·simp only[Act.put,List.setIfInBounds_toArray,List.set_cons_zero,List.set_cons_succ,i64_w,i32_w];rfl
        refine pure_ (i:=4) (N:=some 18) (v:=?_) (a':=?_) #[true,true,true,true,true,false,false,false,false,false,false,false,false,false,false,false] rfl rfl (any_of HT_.out (by kernel_rfl)) (fun _ _ _ h=>h) (Or.inl ⟨by rfl,?_⟩) ?_ ?_
        rotate_left
        ·intro w';go_simp
         with_reducible rfl
        rotate_left
        ·simp only[Act.put,List.setIfInBounds_toArray,List.set_cons_zero,List.set_cons_succ,i64_w,i32_w];rfl
        refine pure_ (i:=5) (N:=some 19) (v:=?_) (a':=?_) #[true,true,true,true,true,true,false,false,false,false,false,false,false,false,false,false] rfl rfl (any_of HT_.out (by kernel_rfl)) (fun _ _ _ h=>h) (Or.inl ⟨by rfl,?_⟩) ?_ ?_
        rotate_left
        ·intro w';go_simp
         with_reducible rfl
        rotate_left
        ·simp only[Act.put,List.setIfInBounds_toArray,List.set_cons_zero,List.set_cons_succ,i64_w,i32_w];rfl
        refine pure_ (i:=6) (N:=some 20) (v:=?_) (a':=?_) #[true,true,true,true,true,true,true,false,false,false,false,false,false,false,false,false] rfl rfl (any_of HT_.out (by kernel_rfl)) (fun _ _ _ h=>h) (Or.inl ⟨by rfl,?_⟩) ?_ ?_
        rotate_left
        ·intro w';go_simp
         with_reducible rfl
        rotate_left
        ·simp only[Act.put,List.setIfInBounds_toArray,List.set_cons_zero,List.set_cons_succ,i64_w,i32_w];rfl
        refine pure_ (i:=8) (N:=some 22) (v:=?_) (a':=?_) #[true,true,true,true,true,true,true,false,true,false,false,false,false,false,false,false] rfl rfl (any_of HT_.out (by kernel_rfl)) (fun _ _ _ h=>h) (Or.inl ⟨by rfl,?_⟩) ?_ ?_
        rotate_left
        ·intro w';go_simp
         with_reducible rfl
        rotate_left
        ·simp only[Act.put,List.setIfInBounds_toArray,List.set_cons_zero,List.set_cons_succ,i64_w,i32_w];rfl
        refine pure_ (i:=9) (N:=some 23) (v:=?_) (a':=?_) #[true,true,true,true,true,true,true,false,true,true,false,false,false,false,false,false] rfl rfl (any_of HT_.out (by kernel_rfl)) (fun _ _ _ h=>h) (Or.inl ⟨by rfl,?_⟩) ?_ ?_
        rotate_left
        ·intro w';go_simp
         with_reducible rfl
        rotate_left
        ·simp only[Act.put,List.setIfInBounds_toArray,List.set_cons_zero,List.set_cons_succ,i64_w,i32_w];rfl
        refine pure_ (i:=10) (N:=some 24) (v:=?_) (a':=?_) #[true,true,true,true,true,true,true,false,true,true,true,false,false,false,false,false] rfl rfl (any_of HT_.out (by kernel_rfl)) (fun _ _ _ h=>h) (Or.inl ⟨by rfl,?_⟩) ?_ ?_
        rotate_left
        ·intro w';go_simp
         with_reducible rfl
        rotate_left
        ·simp only[Act.put,List.setIfInBounds_toArray,List.set_cons_zero,List.set_cons_succ,i64_w,i32_w];rfl
        refine take_ (i:=7) (N:=some 21) (v:=?_) (a':=?_) #[true,true,true,true,true,true,true,true,true,true,true,false,false,false,false,false] rfl rfl (take_ofW HT_.out HW_.out (by kernel_rfl)) (fun _ _ _ h=>h) (Or.inl ⟨by rfl,?_⟩) hHeld ?_ ?_
        rotate_left
        ·rintro w' ⟨s0,s1⟩
         go_simp
         with_reducible rfl
        rotate_left
        ·simp only[Act.put,List.setIfInBounds_toArray,List.set_cons_zero,List.set_cons_succ,i64_w,i32_w];rfl
        refine take_ (i:=11) (N:=some 25) (v:=?_) (a':=?_) #[true,true,true,true,true,true,true,true,true,true,true,true,false,false,false,false] rfl rfl (take_ofW HT_.out HW_.out (by kernel_rfl)) (fun _ _ _ h=>h) (Or.inl ⟨by rfl,?_⟩) hHeld ?_ ?_
        rotate_left
        ·rintro w' ⟨s0,s1⟩
         go_simp
         with_reducible rfl
        rotate_left
        ·simp only[Act.put,List.setIfInBounds_toArray,List.set_cons_zero,List.set_cons_succ,i64_w,i32_w];rfl
        refine pure_ (i:=12) (N:=some 26) (v:=?_) (a':=?_) #[true,true,true,true,true,true,true,true,true,true,true,true,true,false,false,false] rfl rfl (any_of HT_.out (by kernel_rfl)) (fun _ _ _ h=>h) (Or.inl ⟨by rfl,?_⟩) ?_ ?_
        rotate_left
        ·intro w';go_simp
         with_reducible rfl
        rotate_left
        ·simp only[Act.put,List.setIfInBounds_toArray,List.set_cons_zero,List.set_cons_succ,i64_w,i32_w];rfl
        refine last_ (i:=13) (N:=none) #[true,true,true,true,true,true,true,true,true,true,true,true,true,true,false,false] rfl rfl (one_of HT_.out (by kernel_rfl)) (by decide) (fun K hK=>?_);refine skip_ (w1:=?_) (by rfl) rfl ?_ ?_
        rotate_left
        ·go_simp
         rfl
        refine hK.out _ _ ?_;clear hK K;refine pure_ (i:=14) (N:=some 27) (v:=?_) (a':=?_) #[true,true,true,true,true,true,true,true,true,true,true,true,true,true,true,false] rfl rfl (any_of HT_.out (by kernel_rfl)) (fun _ _ _ h=>h) (Or.inl ⟨by rfl,?_⟩) ?_ ?_
        rotate_left
        ·intro w';go_simp
         with_reducible rfl
        rotate_left
        ·simp only[Act.put,List.setIfInBounds_toArray,List.set_cons_zero,List.set_cons_succ,i64_w,i32_w];rfl
        refine last_ (i:=15) (N:=none) #[true,true,true,true,true,true,true,true,true,true,true,true,true,true,true,true] rfl rfl (one_of HT_.out (by kernel_rfl)) (by decide) (fun K hK=>?_);refine skip_ (w1:=?_) (by rfl) rfl ?_ ?_
        rotate_left
        ·go_simp
         rfl
        refine hK.out _ _ ?_;clear hK K;refine done_ (done_of HT_.out (by kernel_rfl)) ?_
        try go_wp2
        (try simp only[<-hl0_1])
        go_roundg k1
        case measure=>have:=HK1.out;omega
        case rel=>exact⟨(y104),(wrap64 (x2_1+1)),(wrap64 (x3_1 - 1)),(by first |rfl |(simp;done) |(simp[*];done)),(by first |rfl |(simp;done) |(simp[*];done)),H',⟨by have:=HK1.out;omega⟩,⟨by (try simp only[hl0_1]);(with_reducible repeat (first |apply Kd.R_alloc |apply Kd.R_drewN |apply Kd.R_drew));exact HQ12.out⟩,⟨by repeat (first |(with_reducible first |exact HK.out |apply Kept.alloc |apply Kept.drewN |apply Kept.drew |refine Kept.setCell ?_ HMgo8.out _ |refine Kept.setCell ?_ HMgo8.out _) |exact HK.out)⟩,⟨by repeat (first |(with_reducible first |exact HB.out |apply below_alloc |apply pw_below_drewN |apply below_drew1 |refine below_set ?_ GB8.out |refine below_set ?_ GB8.out) |exact HB.out)⟩⟩
       ·rw[if_neg c7] at H;exact absurd H (by simp)
      ·rw[if_neg c6] at H;exact absurd H (by simp)
     ·rw[if_neg c5] at H;exact absurd H (by simp)
    ·rw[if_neg c4] at H;exact absurd H (by simp)
   ·rw[if_neg c3] at H;have c3b0:decide (x2_1<x3_1)=false:=decide_eq_false c3;clear c3;obtain rfl:=Option.some.inj H
    go_wp2
    first |go_end0 |((try simp only[Exit.inBlock,Exit.then]);refine bodyPost_ret (results_none rfl _ _ _) rfl ?_)
    exact⟨by first |rfl |(simp[errW_none,errW_some]<;>rfl) |(simp[*,errW_none,errW_some]<;>rfl),(by first |exact (by (with_reducible repeat (first |apply Kd.R_alloc |apply Kd.R_drewN |apply Kd.R_drew));exact HO_0.out) |(simp only[hl0_1];exact (by (with_reducible repeat (first |apply Kd.R_alloc |apply Kd.R_drewN |apply Kd.R_drew));exact HO_0.out))),by repeat (first |(with_reducible first |exact HB.out |apply below_alloc |apply pw_below_drewN |apply below_drew1) |exact HB.out),by repeat (first |(with_reducible first |exact HK.out |apply Kept.alloc |apply Kept.drewN |apply Kept.drew) |exact HK.out)⟩
end Go.Proofs.YtfdlmpicmkpabaaDoor.PQ
end
section
namespace Go.Proofs.YtfdlmpicmkpabaaDoor.Ext
set_option maxRecDepth 100000
open Go.RowKit Go.Proofs.YtfdlmpicmkpabaaDoorW.PrintWords Go.Proofs.YtfdlmpicmkpabaaDoorW.PrintLast Go.Proofs.YtfdlmpicmkpabaaDoorW.PrintMore
open Go.Proofs.YtfdlmpicmkpabaaDoor.PQ
theorem rdOf_get(x:List ByteArray)(n:Nat)(h:n<x.length):some (rdOf ByteArray.empty x (n:Int))=x[n]?:=by
 unfold rdOf;rw[Int.toNat_natCast,List.getD_eq_getElem?_getD,List.getElem?_eq_getElem h];rfl
theorem w64(i:Int)(h0: -9223372036854775808<=i)(h1:i<=9223372036854775807):wrap64 i=i:=by unfold wrap64;omega
theorem rev_l0:∀(k:Nat) (x:List ByteArray) (a b:Nat),b<=x.length->x.length<=1000000->a<=b->b<k+a->∃y,slices_Reverse_string_string.l0 k x (a:Int) ((b:Int) - 1)=some y∧∀t:Nat,y[t]?=if a<=t∧t<b then x[a+b - 1 - t]? else x[t]?:=by
 intro k
 induction k with
 |zero=>intro x a b _ _ h1 h2;omega
 |succ k ih=>
  intro x a b hb hl hab hk;unfold slices_Reverse_string_string.l0
  by_cases hc:(a:Int)<(b:Int) - 1
  ·rw[if_pos hc,if_pos (by omega),if_pos (by omega),if_pos (by omega),if_pos (by omega),w64 _ (by omega) (by omega),w64 _ (by omega) (by omega)];obtain⟨c,rfl⟩:∃c,b=c+1:=⟨b - 1,by omega⟩
   rw[show ((c+1:Nat):Int) - 1=(c:Int) by omega];rw[show (a:Int)+1=((a+1:Nat):Int) by omega,Int.toNat_natCast,Int.toNat_natCast];obtain⟨y,hy,ht⟩:=ih ((x.set a (rdOf ByteArray.empty x (c:Int))).set c (rdOf ByteArray.empty x (a:Int))) (a+1) c (by simp;omega) (by simpa using hl) (by omega) (by omega);refine⟨y,hy,fun t=>?_⟩;have ea:=rdOf_get x a (by omega);have ec:=rdOf_get x c (by omega);rw[ht t];have hx:∀s:Nat,((x.set a (rdOf ByteArray.empty x (c:Int))).set c (rdOf ByteArray.empty x (a:Int)))[s]?=if c=s then x[a]? else if a=s then x[c]? else x[s]?:=by
    intro s;rw[List.getElem?_set]
    by_cases h1:c=s
    ·rw[if_pos h1,if_pos h1,if_pos (by simp;omega),ea]
    ·rw[if_neg h1,if_neg h1,List.getElem?_set]
     by_cases h2:a=s
     ·rw[if_pos h2,if_pos h2,if_pos (by omega),ec]
     ·rw[if_neg h2,if_neg h2]
   by_cases h3:a+1<=t∧t<c
   ·rw[if_pos h3,if_pos (by omega),hx,if_neg (by omega),if_neg (by omega)];congr 1;omega
   ·rw[if_neg h3,hx]
    by_cases h4:c=t
    ·rw[if_pos h4,if_pos (by omega)];congr 1;omega
    ·rw[if_neg h4]
     by_cases h5:a=t
     ·rw[if_pos h5,if_pos (by omega)];congr 1;omega
     ·rw[if_neg h5,if_neg (by omega)]
  ·rw[if_neg hc];refine⟨x,rfl,fun t=>?_⟩
   by_cases h:a<=t∧t<b
   ·rw[if_pos h];congr 1;omega
   ·rw[if_neg h]
theorem rev_f(x:List ByteArray)(hl:x.length<=1000000):slices_Reverse_string_string.f (x.length+1) x=some x.reverse:=by
 unfold slices_Reverse_string_string.f;rw[w64 _ (by omega) (by omega)];obtain⟨y,hy,ht⟩:=rev_l0 (x.length+1) x 0 x.length (Nat.le_refl _) hl (Nat.zero_le _) (by omega);have h0:((0:Nat):Int)=0:=rfl;rw[h0] at hy;rw[hy];congr 1;apply List.ext_getElem?;intro t;rw[ht t]
 by_cases h:t<x.length
 ·rw[if_pos (by omega),List.getElem?_reverse h];congr 1;omega
 ·rw[if_neg (by omega),List.getElem?_eq_none (by omega),List.getElem?_eq_none (by simp;omega)]
end Go.Proofs.YtfdlmpicmkpabaaDoor.Ext
end
section
namespace Go.Proofs.YtfdlmpicmkpabaaDoor.Ext
set_option maxRecDepth 100000
open Go.RowKit Go.Shelf Go.Proofs.YtfdlmpicmkpabaaDoorW.PrintWords Go.Proofs.YtfdlmpicmkpabaaDoorW.PrintLast Go.Proofs.YtfdlmpicmkpabaaDoorW.PrintMore
open Go.Proofs.YtfdlmpicmkpabaaDoor.PQ
attribute [local go_sem] Oper.semAt_some
attribute [local go_sem ↓] Go.wp_at_zero Go.wp_at_succ
theorem strs_take{w:World}{A:Option Addr}{l:List ByteArray}(h:Kd.C Kd.string w A l.length l)(k:Nat):Kd.C Kd.string w A (l.take k).length (l.take k):=by
 refine⟨rfl,by have:=h.2.1;simp;omega,fun hp=>?_⟩;obtain⟨ad,e,hc⟩:=h.2.2 (by simp at hp;omega);refine⟨ad,e,fun j p hj=>hc j p ?_⟩;rw[List.getElem?_take] at hj
 split at hj
 ·exact hj
 ·cases hj
theorem strs_drop{w:World}{ad:Addr}{l:List ByteArray}(h:Kd.C Kd.string w (some ad) l.length l)(k:Nat):Kd.C Kd.string w (some (ad.add k)) (l.drop k).length (l.drop k):=by
 refine⟨rfl,by have:=h.2.1;simp;omega,fun hp=>?_⟩;obtain⟨ad',e,hc⟩:=h.2.2 (by simp at hp;omega);injection e with e
 subst e;refine⟨_,rfl,fun j p hj=>?_⟩;obtain⟨c,h1,h2,h3⟩:=hc (k+j) p (by rw[List.getElem?_drop] at hj;exact hj);refine⟨c,h1,h2,fun i u hu=>?_⟩;rw[Addr.add_add];have:=h3 i u hu;have hs:Kd.sz Kd.string=1:=rfl;rw[hs] at this ⊢;rw[show k+(j*1+i)=(k+j)*1+i by omega];exact this
theorem news_new1(W:World)(c:Array Value)(t:TypeId)(n:Nat)(l:List Value)(hc:c=l.toArray)(hn:W.heap.size=n):∀(j:Nat) (u:Value),l[j]?=some u->(W.alloc (.cells c t)).cell? ((⟨n,0,none⟩:Addr).add j)=some u:=news_new W c t n l hc hn
def strV(l:List ByteArray):List Value:=l.map Value.string
theorem strV_snoc(l:List ByteArray)(x:ByteArray):strV (l++[x])=strV l++[.string x]:=by simp[strV]
theorem R_of_own{w:World}{N:Nat}{v:Value}{l:List ByteArray}(h:w.ownsRow N 9 1 v l.length (strV l)):Kd.R Kd.string 9 w N (fun _=>True) v l:=by
 refine⟨fun _ _=>trivial,strV l,h,?_,fun j p hj=>?_⟩
 ·show (strV l).length=l.length*1
  simp[strV]
 ·show ((strV l).drop (j*1)).take 1=[Value.string p]
  rw[Nat.mul_one,List.take_one,List.head?_drop];simp[strV,hj]
set_option maxRecDepth 100000 in
set_option maxHeartbeats 1000000 in
theorem Proof_walk(ad:Addr)(c:Nat)(l:List ByteArray)(i:Nat)(w:World)(hG:GL w)(hr:Kd.C Kd.string w (some ad) l.length l)(hc:l.length<=c)(hln:l.length<=1000000)(hls:∀x ∈ l,x.size<=140737488349000)(hi:i<l.length):
  Calls Tryd.prog 67 #[.slice (some ad) l.length c,.int .i64 (i:Int)] w fun e w'=>∃v,e=.returned (.tuple #[v,.int .i64 0])∧Kd.R Kd.string 9 w' w.heap.size (fun _=>True) v (Tree.proofR dE dL dN l i).reverse∧Below w.heap.size w w':=by
 obtain⟨i0,hi9,hz0,hz1,hz2⟩:=info_parts infoQ9;have HR:=Lib.hid hr;have HG:=Lib.hid hG;have HS:=Lib.hid hls;clear hr hG hls;obtain⟨L,hL⟩:∃L,l.length=L:=⟨_,rfl⟩
 have hlr:=HR.out;rw[hL] at hlr hc hln hi ⊢;have HLR:=Lib.hid (And.intro hL hlr);clear hL hlr;have d1:decide ((i:Int)<0)=false:=decide_eq_false (by omega);have d2:decide ((L:Int)<=(i:Int))=false:=decide_eq_false (by omega);have d2':decide (L<=i)=false:=decide_eq_false (by omega)
 go_enter Tryd.func67,Tryd.ntmps67
 go_wp2
 go_step3
 go_wp2
 refine wp_label ?_
 go_wp2
 go_loopw [0,1,6] (fun vl vi vo wr=>∃(l':List ByteArray) (i':Nat) (ad':Addr) (c':Nat) (out:List ByteArray),vl=.slice (some ad') l'.length c'∧vi=.int .i64 (i':Int)∧i'<l'.length∧l'.length<=c'∧out.length+l'.length<=L∧Hid (Kd.C Kd.string w (some ad') l'.length l')∧Hid (∀x ∈ l',x.size<=140737488349000)∧Hid (wr.ownsRow w.heap.size 9 1 vo out.length (strV out))∧Hid (out++Tree.proofR dE dL dN l' i'=Tree.proofR dE dL dN l i)∧Below w.heap.size w wr) (fun vl vi vo wr=>lenOf vl)
 case atStart=>exact⟨l,i,ad,c,[],by rw[HLR.out.1],rfl,by rw[HLR.out.1];exact hi,by rw[HLR.out.1];exact hc,by rw[HLR.out.1];simp,HR,HS,Lib.hid (World.ownsRow_nil _ _ _ _),Lib.hid (by simp),Below.refl _ _⟩
 case round=>
  obtain⟨l',i',ad',c',out,rfl,rfl,hi',hc',hol,hr',hs',hown,hval,hbel⟩:=hrel;obtain⟨m,hm⟩:∃m,l'.length=m:=⟨_,rfl⟩
  obtain⟨q,hq⟩:∃q,out.length=q:=⟨_,rfl⟩
  have hr2:=hr'.out;have ho:=hown.out;rw[hm] at hi' hc' hol hr2 ⊢;rw[hq] at hol ho;have HM:=Lib.hid (And.intro hm hr2);have HQ:=Lib.hid hq;have HO:=Lib.hid ho;clear hm hq ho hr2;have hNr:=hbel.size
  by_cases h1:m=1
  ·subst h1;have d3:(((1:Nat):Int)==1)=true:=by decide
   go_wp2_with (first |(go_at_call 85;refine (slices_Reverse_string_string.calls (out.length+1) (fun _=>True) u6 out out.reverse w wr hbel (R_of_own hown.out) (rev_f out (by rw[HQ.out];omega))).mono ?_;rintro e w2 ⟨rfl,hR2,hb2,hk2⟩) |fail)
   rw[Exit.noGoto_ret];go_ret2;have he:out=Tree.proofR dE dL dN l i:=by
    have:=hval.out;rw[Tree.proofR_small dE dL dN (by rw[HM.out.1];exact Nat.le_refl _),List.append_nil] at this;exact this
   exact⟨_,rfl,he ▸ Kd.R_mono hR2 (fun _ _=>trivial),hb2⟩
  ·have d3:((m:Int)==1)=false:=by simp;omega
   obtain⟨k,hk⟩:∃k,Tree.left m=k:=⟨_,rfl⟩
   have hkn:0<k∧k<m:=by rw[<-hk];exact⟨Tree.left_pos _,Tree.left_lt (by omega)⟩
   have hkn1:=hkn.1;have hkn2:=hkn.2;have HK:=Lib.hid hk;clear hk hkn;have hlf:=fun W0=>left_walk m (by omega) (by omega) W0
   have HLF:=Lib.hid hlf;clear hlf;have htk:(l'.take k).length=k:=by rw[List.length_take,HM.out.1];omega
   have hdk:(l'.drop k).length=m - k:=by rw[List.length_drop,HM.out.1]
   have hct:=strs_take hr'.out k;have hcd:=strs_drop hr'.out k;have hRT:∀W,Below w.heap.size w W->Calls Tryd.prog 49 #[.slice (some ad') k c'] W fun e w'=>e=.returned (.string (Tree.root dE dL dN (l'.take k)))∧Below W.heap.size W w':=fun W hb=>by
    have:=Root_walk (some ad') c' (l'.take k) W (HG.out.below hb) (Kd.C_below hct hb) (by omega) (by omega) (fun x hx=>hs'.out x (List.mem_of_mem_take hx));rw[htk] at this;exact this
   have hRD:∀W,Below w.heap.size w W->Calls Tryd.prog 49 #[.slice (some (ad'.add k)) (m - k) (c' - k)] W fun e w'=>e=.returned (.string (Tree.root dE dL dN (l'.drop k)))∧Below W.heap.size W w':=fun W hb=>by
    have:=Root_walk (some (ad'.add k)) (c' - k) (l'.drop k) W (HG.out.below hb) (Kd.C_below hcd hb) (by omega) (by omega) (fun x hx=>hs'.out x (List.mem_of_mem_drop hx));rw[hdk] at this;exact this
   have HRT:=Lib.hid (And.intro hRT hRD);have HL:=Lib.hid (And.intro htk (And.intro hdk (And.intro hct hcd)));clear hRT hRD htk hdk hct hcd
   by_cases hik:k<=i'
   ·have d4:decide ((k:Int)<=(i':Int))=true:=decide_eq_true (by omega)
    go_wp2_with (first |(go_at_call 84;refine (HLF.out _).mono ?_;rintro e w2 ⟨he,hw2⟩;obtain rfl:=hw2.symm;rw[HK.out] at he;subst he) |fail)
    go_quiet (fail)
    go_wp2_with (first |(go_at_call 49;refine (HRT.out.1 _ (below_dN hbel _)).mono ?_;rintro e w2 ⟨rfl,hb2⟩;have HB2:=Lib.hid ((below_dN hbel _).trans (hb2.mono (by simpa using hNr)));have HO2:=Lib.hid ((own_dN HO.out _).kept (below_grown (B:=0) hb2 none) (by rcases hh:u6.ownBlock with _ |k2;exact .inl rfl;exact .inr (by simp)))) |(at_builtin;refine wpList_append_own _ (by rfl) (.tmp 38) (.tmp 41) 35 (by rfl) w.heap.size 9 i0 _ 1 16 Tryd.underlying35 hi9 hz0 hz1 hz2 (by rfl) (by decide) u6 q (strV out) (by rfl) (HO2.out.alloc _) ⟨w2.heap.size,0,none⟩ 1 1 [.string (Tree.root dE dL dN (l'.take k))] (by rfl) rfl (news_new1 _ _ _ _ _ rfl rfl) (by simp[Value.oneCell']) (by unfold maxLen;omega) (by omega) (by simp;have:=HB2.out.size;omega) ?_;intro v3' w3 hown3 hg3 hnil3) |fail)
    go_roundw
    case rel=>
     have hlen:(out++[Tree.root dE dL dN (l'.take k)]).length=q+1:=by rw[List.length_append,HQ.out,List.length_singleton]
     have hst:Tree.proofR dE dL dN l' i'=Tree.root dE dL dN (l'.take k)::Tree.proofR dE dL dN (l'.drop k) (i' - k):=by
      have:=Tree.proofR_high dE dL dN (l:=l') (i:=i') (by rw[HM.out.1];omega) (by rw[HM.out.1,HK.out];omega);rw[HM.out.1,HK.out] at this;exact this
     refine⟨l'.drop k,i' - k,ad'.add k,c' - k,out++[Tree.root dE dL dN (l'.take k)],by rw[HL.out.2.1],by congr 1;omega,by rw[HL.out.2.1];omega,by rw[HL.out.2.1];omega,by rw[hlen,HL.out.2.1];omega,Lib.hid HL.out.2.2.2,Lib.hid (fun x hx=>hs'.out x (List.mem_of_mem_drop hx)),Lib.hid ?_,Lib.hid ?_,?_⟩
     ·rw[hlen,strV_snoc];exact hown3
     ·rw[<-hval.out,hst,List.append_assoc];rfl
     ·exact Below.grown (HB2.out.alloc HB2.out.size _) hg3 (by simp;have:=HB2.out.size;omega) (fun k hk=>(HO2.out.lt k hk).1)
    case measure=>simp[lenOf];omega
   ·have d4:decide ((k:Int)<=(i':Int))=false:=decide_eq_false (by omega)
    go_wp2_with (first |(go_at_call 84;refine (HLF.out _).mono ?_;rintro e w2 ⟨he,hw2⟩;obtain rfl:=hw2.symm;rw[HK.out] at he;subst he) |fail)
    go_quiet (fail)
    go_wp2_with (first |(go_at_call 49;refine (HRT.out.2 _ (below_dN hbel _)).mono ?_;rintro e w2 ⟨rfl,hb2⟩;have HB2:=Lib.hid ((below_dN hbel _).trans (hb2.mono (by simpa using hNr)));have HO2:=Lib.hid ((own_dN HO.out _).kept (below_grown (B:=0) hb2 none) (by rcases hh:u6.ownBlock with _ |k2;exact .inl rfl;exact .inr (by simp)))) |(at_builtin;refine wpList_append_own _ (by rfl) (.tmp 38) (.tmp 41) 35 (by rfl) w.heap.size 9 i0 _ 1 16 Tryd.underlying35 hi9 hz0 hz1 hz2 (by rfl) (by decide) u6 q (strV out) (by rfl) (HO2.out.alloc _) ⟨w2.heap.size,0,none⟩ 1 1 [.string (Tree.root dE dL dN (l'.drop k))] (by rfl) rfl (news_new1 _ _ _ _ _ rfl rfl) (by simp[Value.oneCell']) (by unfold maxLen;omega) (by omega) (by simp;have:=HB2.out.size;omega) ?_;intro v3' w3 hown3 hg3 hnil3) |fail)
    go_roundw
    case rel=>
     have hlen:(out++[Tree.root dE dL dN (l'.drop k)]).length=q+1:=by rw[List.length_append,HQ.out,List.length_singleton]
     have hst:Tree.proofR dE dL dN l' i'=Tree.root dE dL dN (l'.drop k)::Tree.proofR dE dL dN (l'.take k) (i'):=by
      have:=Tree.proofR_low dE dL dN (l:=l') (i:=i') (by rw[HM.out.1];omega) (by rw[HM.out.1,HK.out];omega);rw[HM.out.1,HK.out] at this;exact this
     refine⟨l'.take k,i',ad',c',out++[Tree.root dE dL dN (l'.drop k)],by rw[HL.out.1],rfl,by rw[HL.out.1];omega,by rw[HL.out.1];omega,by rw[hlen,HL.out.1];omega,Lib.hid HL.out.2.2.1,Lib.hid (fun x hx=>hs'.out x (List.mem_of_mem_take hx)),Lib.hid ?_,Lib.hid ?_,?_⟩
     ·rw[hlen,strV_snoc];exact hown3
     ·rw[<-hval.out,hst,List.append_assoc];rfl
     ·exact Below.grown (HB2.out.alloc HB2.out.size _) hg3 (by simp;have:=HB2.out.size;omega) (fun k hk=>(HO2.out.lt k hk).1)
    case measure=>simp[lenOf];omega
end Go.Proofs.YtfdlmpicmkpabaaDoor.Ext
end
section
namespace Go.Proofs.YtfdlmpicmkpabaaDoor.Ext
set_option maxRecDepth 100000
open Go.RowKit Go.Shelf Go.Proofs.YtfdlmpicmkpabaaDoorW.PrintWords Go.Proofs.YtfdlmpicmkpabaaDoorW.PrintLast Go.Proofs.YtfdlmpicmkpabaaDoorW.PrintMore
open Go.Proofs.YtfdlmpicmkpabaaDoor.PQ
attribute [local go_sem] Oper.semAt_some
attribute [local go_sem ↓] Go.wp_at_zero Go.wp_at_succ
theorem own_snoc{w:World}{N q:Nat}{v:Value}{out:List ByteArray}{x:ByteArray}(hq:out.length=q)(h:w.ownsRow N 9 1 v (q+1) (strV out++[.string x])):w.ownsRow N 9 1 v (out++[x]).length (strV (out++[x])):=by
 rw[List.length_append,hq,strV_snoc];exact h
set_option maxRecDepth 100000 in
set_option maxHeartbeats 1000000 in
theorem Extension_walk(ad:Addr)(c:Nat)(l:List ByteArray)(i:Nat)(w:World)(hG:GL w)(hr:Kd.C Kd.string w (some ad) l.length l)(hc:l.length<=c)(hln:l.length<=1000000)(hls:∀x ∈ l,x.size<=140737488349000)(hp:1<=i)(hi:i<=l.length):
  Calls Tryd.prog 72 #[.slice (some ad) l.length c,.int .i64 (i:Int)] w fun e w'=>∃v,e=.returned (.tuple #[v,.int .i64 0])∧Kd.R Kd.string 9 w' w.heap.size (fun _=>True) v (Tree.partR dE dL dN l i true).reverse∧Below w.heap.size w w':=by
 obtain⟨i0,hi9,hz0,hz1,hz2⟩:=info_parts infoQ9;have HR:=Lib.hid hr;have HG:=Lib.hid hG;have HS:=Lib.hid hls;clear hr hG hls;obtain⟨L,hL⟩:∃L,l.length=L:=⟨_,rfl⟩
 have hlr:=HR.out;rw[hL] at hlr hc hln hi ⊢;have HLR:=Lib.hid (And.intro hL hlr);clear hL hlr;have d1:decide ((i:Int)<0)=false:=decide_eq_false (by omega);have d2:decide ((L:Int)<(i:Int))=false:=decide_eq_false (by omega);have d2':decide (L<i)=false:=decide_eq_false (by omega);have d0:((i:Int)==0)=false:=by simp;omega
 go_enter Tryd.func72,Tryd.ntmps72
 go_wp2
 go_loopw [0,1,6,7] (fun vl vi vo vb wr=>∃(l':List ByteArray) (i':Nat) (ad':Addr) (c':Nat) (out:List ByteArray) (b:Bool),vl=.slice (some ad') l'.length c'∧vi=.int .i64 (i':Int)∧vb=.bool b∧1<=i'∧i'<=l'.length∧l'.length<=c'∧out.length+l'.length<=L∧Hid (Kd.C Kd.string w (some ad') l'.length l')∧Hid (∀x ∈ l',x.size<=140737488349000)∧Hid (wr.ownsRow w.heap.size 9 1 vo out.length (strV out))∧Hid (out++Tree.partR dE dL dN l' i' b=Tree.partR dE dL dN l i true)∧Below w.heap.size w wr) (fun vl vi vo vb wr=>lenOf vl)
 case atStart=>exact⟨l,i,ad,c,[],true,by rw[HLR.out.1],rfl,rfl,hp,by rw[HLR.out.1];exact hi,by rw[HLR.out.1];exact hc,by rw[HLR.out.1];simp,HR,HS,Lib.hid (World.ownsRow_nil _ _ _ _),Lib.hid (by simp),Below.refl _ _⟩
 case round=>
  obtain⟨l',i',ad',c',out,b,rfl,rfl,rfl,hp',hi',hc',hol,hr',hs',hown,hval,hbel⟩:=hrel;obtain⟨m,hm⟩:∃m,l'.length=m:=⟨_,rfl⟩
  obtain⟨q,hq⟩:∃q,out.length=q:=⟨_,rfl⟩
  have hr2:=hr'.out;have ho:=hown.out;rw[hm] at hi' hc' hol hr2 ⊢;rw[hq] at hol ho;have HM:=Lib.hid (And.intro hm hr2);have HQ:=Lib.hid hq;have HO:=Lib.hid ho;clear hm hq ho hr2;have hNr:=hbel.size
  by_cases h1:¬i'<m
  ·have hE:i'=m:=by omega
   subst hE;have d3:decide ((i':Int)<(i':Int))=false:=by simp
   cases b with
   |true=>
    go_wp2_with (first |(go_at_call 85;refine (slices_Reverse_string_string.calls (out.length+1) (fun _=>True) u6 out out.reverse w wr hbel (R_of_own hown.out) (rev_f out (by rw[HQ.out];omega))).mono ?_;rintro e w9 ⟨rfl,hR2,hb9,hk2⟩) |fail)
    go_ret2
    have he:out=Tree.partR dE dL dN l i true:=by
     have:=hval.out;rw[Tree.partR_end dE dL dN (by rw[HM.out.1];exact Nat.le_refl _),if_pos rfl,List.append_nil] at this;exact this
    exact⟨_,rfl,he ▸ Kd.R_mono hR2 (fun _ _=>trivial),hb9⟩
   |false=>
    have he:out++[Tree.root dE dL dN l']=Tree.partR dE dL dN l i true:=by
     have:=hval.out;rw[Tree.partR_end dE dL dN (by rw[HM.out.1];exact Nat.le_refl _),if_neg (by decide)] at this;exact this
    have HE:=Lib.hid he;clear he;have hRT:∀W,Below w.heap.size w W->Calls Tryd.prog 49 #[.slice (some ad') i' c'] W fun e w'=>e=.returned (.string (Tree.root dE dL dN l'))∧Below W.heap.size W w':=fun W hb=>by
     have:=Root_walk (some ad') c' l' W (HG.out.below hb) (Kd.C_below hr'.out hb) (by rw[HM.out.1];omega) (by rw[HM.out.1];omega) hs'.out;rw[HM.out.1] at this;exact this
    have HRT:=Lib.hid hRT;clear hRT
    go_wp2_with (first |(go_at_call 49;refine (HRT.out _ hbel).mono ?_;rintro e w2 ⟨rfl,hb2⟩;have HB2:=Lib.hid (hbel.trans (hb2.mono hNr));have HO2:=Lib.hid (HO.out.kept (below_grown (B:=0) hb2 none) (by rcases hh:u6.ownBlock with _ |k2;exact .inl rfl;exact .inr (by simp)))) |(at_builtin;refine wpList_append_own _ (by rfl) (.tmp 52) (.tmp 55) 35 (by rfl) w.heap.size 9 i0 _ 1 16 Tryd.underlying35 hi9 hz0 hz1 hz2 (by rfl) (by decide) u6 q (strV out) (by rfl) (HO2.out.alloc _) ⟨w2.heap.size,0,none⟩ 1 1 [.string (Tree.root dE dL dN l')] (by rfl) rfl (news_new1 _ _ _ _ _ rfl rfl) (by simp[Value.oneCell']) (by unfold maxLen;omega) (by omega) (by simp;have:=HB2.out.size;omega) ?_;intro v3' w3 hown3 hg3 hnil3;have HB3:=Lib.hid (Below.grown (HB2.out.alloc HB2.out.size _) hg3 (by simp;have:=HB2.out.size;omega) (fun k hk=>(HO2.out.lt k hk).1));have HO3:=Lib.hid (own_snoc HQ.out hown3)) |(go_at_call 85;refine (slices_Reverse_string_string.calls ((out++[Tree.root dE dL dN l']).length+1) (fun _=>True) v3' (out++[Tree.root dE dL dN l']) (out++[Tree.root dE dL dN l']).reverse w w3 HB3.out (R_of_own HO3.out) (rev_f (out++[Tree.root dE dL dN l']) (by rw[List.length_append,HQ.out,List.length_singleton];omega))).mono ?_;rintro e w9 ⟨rfl,hR2,hb9,hk2⟩) |fail)
    go_ret2
    exact⟨_,rfl,HE.out ▸ Kd.R_mono hR2 (fun _ _=>trivial),hb9⟩
  ·have hlt:i'<m:=by omega
   have d3:decide ((i':Int)<(m:Int))=true:=decide_eq_true (by omega);obtain⟨k,hk⟩:∃k,Tree.left m=k:=⟨_,rfl⟩
   have hkn:0<k∧k<m:=by rw[<-hk];exact⟨Tree.left_pos _,Tree.left_lt (by omega)⟩
   have hkn1:=hkn.1;have hkn2:=hkn.2;have HK:=Lib.hid hk;clear hk hkn;have hlf:=fun W0=>left_walk m (by omega) (by omega) W0
   have HLF:=Lib.hid hlf;clear hlf;have htk:(l'.take k).length=k:=by rw[List.length_take,HM.out.1];omega
   have hdk:(l'.drop k).length=m - k:=by rw[List.length_drop,HM.out.1]
   have hct:=strs_take hr'.out k;have hcd:=strs_drop hr'.out k;have hRT:∀W,Below w.heap.size w W->Calls Tryd.prog 49 #[.slice (some ad') k c'] W fun e w'=>e=.returned (.string (Tree.root dE dL dN (l'.take k)))∧Below W.heap.size W w':=fun W hb=>by
    have:=Root_walk (some ad') c' (l'.take k) W (HG.out.below hb) (Kd.C_below hct hb) (by omega) (by omega) (fun x hx=>hs'.out x (List.mem_of_mem_take hx));rw[htk] at this;exact this
   have hRD:∀W,Below w.heap.size w W->Calls Tryd.prog 49 #[.slice (some (ad'.add k)) (m - k) (c' - k)] W fun e w'=>e=.returned (.string (Tree.root dE dL dN (l'.drop k)))∧Below W.heap.size W w':=fun W hb=>by
    have:=Root_walk (some (ad'.add k)) (c' - k) (l'.drop k) W (HG.out.below hb) (Kd.C_below hcd hb) (by omega) (by omega) (fun x hx=>hs'.out x (List.mem_of_mem_drop hx));rw[hdk] at this;exact this
   have HRT:=Lib.hid (And.intro hRT hRD);have HL:=Lib.hid (And.intro htk (And.intro hdk (And.intro hct hcd)));clear hRT hRD htk hdk hct hcd
   by_cases hik:k<i'
   ·have d4:decide ((k:Int)<(i':Int))=true:=decide_eq_true (by omega)
    go_wp2_with (first |(go_at_call 84;refine (HLF.out _).mono ?_;rintro e w2 ⟨he,hw2⟩;obtain rfl:=hw2.symm;rw[HK.out] at he;subst he) |fail)
    go_quiet (fail)
    go_wp2_with (first |(go_at_call 49;refine (HRT.out.1 _ (below_dN hbel _)).mono ?_;rintro e w2 ⟨rfl,hb2⟩;have HB2:=Lib.hid ((below_dN hbel _).trans (hb2.mono (by simpa using hNr)));have HO2:=Lib.hid ((own_dN HO.out _).kept (below_grown (B:=0) hb2 none) (by rcases hh:u6.ownBlock with _ |k2;exact .inl rfl;exact .inr (by simp)))) |(at_builtin;refine wpList_append_own _ (by rfl) (.tmp 44) (.tmp 47) 35 (by rfl) w.heap.size 9 i0 _ 1 16 Tryd.underlying35 hi9 hz0 hz1 hz2 (by rfl) (by decide) u6 q (strV out) (by rfl) (HO2.out.alloc _) ⟨w2.heap.size,0,none⟩ 1 1 [.string (Tree.root dE dL dN (l'.take k))] (by rfl) rfl (news_new1 _ _ _ _ _ rfl rfl) (by simp[Value.oneCell']) (by unfold maxLen;omega) (by omega) (by simp;have:=HB2.out.size;omega) ?_;intro v3' w3 hown3 hg3 hnil3) |fail)
    go_roundw
    case rel=>
     have hlen:(out++[Tree.root dE dL dN (l'.take k)]).length=q+1:=by rw[List.length_append,HQ.out,List.length_singleton]
     have hst:Tree.partR dE dL dN l' i' b=Tree.root dE dL dN (l'.take k)::Tree.partR dE dL dN (l'.drop k) (i' - k) false:=by
      have:=Tree.partR_high dE dL dN (l:=l') (m:=i') (by omega) (by rw[HM.out.1];omega) (by rw[HM.out.1,HK.out];omega) b;rw[HM.out.1,HK.out] at this;exact this
     refine⟨l'.drop k,i' - k,ad'.add k,c' - k,out++[Tree.root dE dL dN (l'.take k)],false,by rw[HL.out.2.1],by congr 1;omega,rfl,by omega,by rw[HL.out.2.1];omega,by rw[HL.out.2.1];omega,by rw[hlen,HL.out.2.1];omega,Lib.hid HL.out.2.2.2,Lib.hid (fun x hx=>hs'.out x (List.mem_of_mem_drop hx)),Lib.hid ?_,Lib.hid ?_,?_⟩
     ·rw[hlen,strV_snoc];exact hown3
     ·rw[<-hval.out,hst,List.append_assoc];rfl
     ·exact Below.grown (HB2.out.alloc HB2.out.size _) hg3 (by simp;have:=HB2.out.size;omega) (fun k hk=>(HO2.out.lt k hk).1)
    case measure=>simp[lenOf];omega
   ·have d4:decide ((k:Int)<(i':Int))=false:=decide_eq_false (by omega)
    go_wp2_with (first |(go_at_call 84;refine (HLF.out _).mono ?_;rintro e w2 ⟨he,hw2⟩;obtain rfl:=hw2.symm;rw[HK.out] at he;subst he) |fail)
    go_quiet (fail)
    go_wp2_with (first |(go_at_call 49;refine (HRT.out.2 _ (below_dN hbel _)).mono ?_;rintro e w2 ⟨rfl,hb2⟩;have HB2:=Lib.hid ((below_dN hbel _).trans (hb2.mono (by simpa using hNr)));have HO2:=Lib.hid ((own_dN HO.out _).kept (below_grown (B:=0) hb2 none) (by rcases hh:u6.ownBlock with _ |k2;exact .inl rfl;exact .inr (by simp)))) |(at_builtin;refine wpList_append_own _ (by rfl) (.tmp 44) (.tmp 47) 35 (by rfl) w.heap.size 9 i0 _ 1 16 Tryd.underlying35 hi9 hz0 hz1 hz2 (by rfl) (by decide) u6 q (strV out) (by rfl) (HO2.out.alloc _) ⟨w2.heap.size,0,none⟩ 1 1 [.string (Tree.root dE dL dN (l'.drop k))] (by rfl) rfl (news_new1 _ _ _ _ _ rfl rfl) (by simp[Value.oneCell']) (by unfold maxLen;omega) (by omega) (by simp;have:=HB2.out.size;omega) ?_;intro v3' w3 hown3 hg3 hnil3) |fail)
    go_roundw
    case rel=>
     have hlen:(out++[Tree.root dE dL dN (l'.drop k)]).length=q+1:=by rw[List.length_append,HQ.out,List.length_singleton]
     have hst:Tree.partR dE dL dN l' i' b=Tree.root dE dL dN (l'.drop k)::Tree.partR dE dL dN (l'.take k) (i') b:=by
      have:=Tree.partR_low dE dL dN (l:=l') (m:=i') (by omega) (by rw[HM.out.1];omega) (by rw[HM.out.1,HK.out];omega) b;rw[HM.out.1,HK.out] at this;exact this
     refine⟨l'.take k,i',ad',c',out++[Tree.root dE dL dN (l'.drop k)],b,by rw[HL.out.1],rfl,rfl,by omega,by rw[HL.out.1];omega,by rw[HL.out.1];omega,by rw[hlen,HL.out.1];omega,Lib.hid HL.out.2.2.1,Lib.hid (fun x hx=>hs'.out x (List.mem_of_mem_take hx)),Lib.hid ?_,Lib.hid ?_,?_⟩
     ·rw[hlen,strV_snoc];exact hown3
     ·rw[<-hval.out,hst,List.append_assoc];rfl
     ·exact Below.grown (HB2.out.alloc HB2.out.size _) hg3 (by simp;have:=HB2.out.size;omega) (fun k hk=>(HO2.out.lt k hk).1)
    case measure=>simp[lenOf];omega
end Go.Proofs.YtfdlmpicmkpabaaDoor.Ext
end
