import Derived.Test.YtfdlmpicmkpabaaDoorMLogbookDecodesai
import Derived.Test.YtfdlmpicmkpabaaDoorMLogbookDecodesax
import Derived.Test.YtfdlmpicmkpabaaDoorMLogbookDecodesac
import Derived.Lib.Hide
import Derived.Handy
import Derived.Laws.BitsAllLaws
import Derived.Deep.RegionHeld3
import Derived.Deep.Cut
import Derived.Deep.CutBlock
import Derived.Deep.CutRange
import Derived.Deep.DeepCutAuto
import Derived.Deep.DrawnRows
import Derived.BigQuiet
import Derived.Deep.QuietTactic
/-
  Texts of this claim, one behind the other: what they prove stands above each.
-/
set_option linter.unusedVariables false
set_option linter.unusedSimpArgs false
section
namespace Go.Proofs.YtfdlmpicmkpabaaDoor.Ext
set_option maxRecDepth 100000
open Go.RowKit Go.Proofs.YtfdlmpicmkpabaaDoorW.PrintWords Go.Proofs.YtfdlmpicmkpabaaDoorW.PrintLast Go.Proofs.YtfdlmpicmkpabaaDoorW.PrintMore
attribute [local go_sem ↓] Go.wp_at_zero Go.wp_at_succ
abbrev RowW(w:World)(g:Nat)(l:List Nat):Prop:=Blk w g 160 (nums .u32 l)
theorem mixed2(x:Nat)(hx:x<4294967296)(n1 n2:Nat)(h1:0<n1∧n1<32)(h2:0<n2∧n2<32)(g:Nat)(w:World)(c1:w.cell? ⟨g,0,none⟩=some (.int .i64 (n1:Int)))(c2:w.cell? ⟨g,1,none⟩=some (.int .i64 (n2:Int))):
  Calls Tryd.prog 108 #[.int .u32 (x:Int),.slice (some ⟨g,0,none⟩) 2 2] w fun e w'=>e=.returned (.int .u32 ((ShaSpec.mix x [n1,n2]:Nat):Int))∧∃n,w'=w.drewN n:=by
 refine (PR.digest_mixed.calls 3 (x:Int) (some ⟨g,0,none⟩) 2 ([n1,n2].map fun n:Nat=>(n:Int)) _ w ⟨rfl,by simp,fun _=>⟨_,rfl,?_⟩⟩ (Nat.le_refl _) (ShaSpec.mixed_is x hx [n1,n2] (by simp[h1,h2]) (by simp))).mono ?_
 ·intro j p hj;refine⟨[.int .i64 p],rfl,rfl,?_⟩;intro i u hi
  match i,hi with
  |0,hi=>
   simp only[List.getElem?_cons_zero,Option.some.injEq] at hi;subst hi
   match j,hj with
   |0,hj=>simp at hj;subst hj;exact c1
   |1,hj=>simp at hj;subst hj;exact c2
   |j+2,hj=>simp at hj
  |i+1,hi=>simp at hi
 ·rintro e w' ⟨rfl,h⟩
  exact⟨rfl,h.out⟩
theorem mixed3(x:Nat)(hx:x<4294967296)(n1 n2 n3:Nat)(h1:0<n1∧n1<32)(h2:0<n2∧n2<32)(h3:0<n3∧n3<32)(g:Nat)(w:World)(c1:w.cell? ⟨g,0,none⟩=some (.int .i64 (n1:Int)))(c2:w.cell? ⟨g,1,none⟩=some (.int .i64 (n2:Int)))(c3:w.cell? ⟨g,2,none⟩=some (.int .i64 (n3:Int))):
  Calls Tryd.prog 108 #[.int .u32 (x:Int),.slice (some ⟨g,0,none⟩) 3 3] w fun e w'=>e=.returned (.int .u32 ((ShaSpec.mix x [n1,n2,n3]:Nat):Int))∧∃n,w'=w.drewN n:=by
 refine (PR.digest_mixed.calls 4 (x:Int) (some ⟨g,0,none⟩) 3 ([n1,n2,n3].map fun n:Nat=>(n:Int)) _ w ⟨rfl,by simp,fun _=>⟨_,rfl,?_⟩⟩ (Nat.le_refl _) (ShaSpec.mixed_is x hx [n1,n2,n3] (by simp[h1,h2,h3]) (by simp))).mono ?_
 ·intro j p hj;refine⟨[.int .i64 p],rfl,rfl,?_⟩;intro i u hi
  match i,hi with
  |0,hi=>
   simp only[List.getElem?_cons_zero,Option.some.injEq] at hi;subst hi
   match j,hj with
   |0,hj=>simp at hj;subst hj;exact c1
   |1,hj=>simp at hj;subst hj;exact c2
   |2,hj=>simp at hj;subst hj;exact c3
   |j+3,hj=>simp at hj
  |i+1,hi=>simp at hi
 ·rintro e w' ⟨rfl,h⟩
  exact⟨rfl,h.out⟩
theorem word_lt(a b c d:Nat)(ha:a<256)(hb:b<256)(hc:c<256)(hd:d<256):word a b c d<4294967296:=by
 unfold word;simp only[Nat.shiftLeft_eq];exact or_lt (or_lt (or_lt (by omega) (by omega)) (by omega)) (by omega)
theorem getD_lt{bs:List Nat}(hb:∀b ∈ bs,b<256)(j:Nat):bs.getD j 0<256:=by
 rw[List.getD_eq_getElem?_getD];rcases h:bs[j]? with _ |x
 ·simp
 ·simpa using hb x (List.mem_of_getElem? h)
theorem wordAt_lt{bs:List Nat}(hb:∀b ∈ bs,b<256)(j:Nat):wordAt bs j<4294967296:=word_lt _ _ _ _ (getD_lt hb _) (getD_lt hb _) (getD_lt hb _) (getD_lt hb _)
theorem grow_lt{bs:List Nat}(hb:∀b ∈ bs,b<256)(m:Nat):∀x ∈ grow bs m,x<4294967296:=by
 induction m with
 |zero=>intro x hx;simp only[grow,List.mem_map] at hx;obtain⟨j,_,rfl⟩:=hx;exact wordAt_lt hb j
 |succ m ih=>
  intro x hx;simp only[grow,List.mem_append,List.mem_singleton] at hx;rcases hx with hx |rfl
  ·exact ih x hx
  ·exact Nat.mod_lt _ (by decide)
theorem arr_lt{bs:List Nat}(hb:∀b ∈ bs,b<256)(m j:Nat):(arr bs m).getD j 0<4294967296:=by
 rw[List.getD_eq_getElem?_getD];rcases h:(arr bs m)[j]? with _ |x
 ·simp
 ·have:=List.mem_of_getElem? h;simp only[arr,List.mem_append,List.mem_replicate] at this;rcases this with h1 |⟨_,rfl⟩
  ·simpa using grow_lt hb m x h1
  ·simp
theorem first_zero(bs:List Nat):first bs 0=List.replicate 64 0:=by
 apply List.ext_getElem
 ·simp[first]
 ·intro i h1 h2;rw[List.getElem_replicate];simp[first]
theorem next_is(X Y U V:Nat)(hX:X<4294967296)(hY:Y<4294967296):IntKind.u32.wrap (IntKind.u32.wrap (IntKind.u32.wrap ((U:Int)+Go.bits .xor .u32 ((ShaSpec.mix X [7,18]:Nat):Int) ((X:Int) / 8))+(V:Int))+Go.bits .xor .u32 ((ShaSpec.mix Y [17,19]:Nat):Int) ((Y:Int) / 1024))=(((U+(ShaSpec.mix X [7,18] ^^^ (X >>> 3))+V+(ShaSpec.mix Y [17,19] ^^^ (Y >>> 10)))%4294967296:Nat):Int):=by
 have hmx:∀(x:Nat) (l:List Nat),x<4294967296->ShaSpec.mix x l<4294967296:=fun x l hx=>by
  unfold ShaSpec.mix;have:∀(l:List Nat) (a:Nat),a<4294967296->l.foldl (fun a n=>a ^^^ Sha.rot x n) a<4294967296:=by
   intro l
   induction l with
   |nil=>intro a h;exact h
   |cons n l ih=>intro a h;exact ih _ (ShaSpec.xor_lt h (ShaSpec.rot_lt _ _ hx))
  exact this l 0 (by decide)
 have e1:(X:Int) / (8:Int)=(((X >>> 3):Nat):Int):=by rw[Nat.shiftRight_eq_div_pow];simp
 have e2:(Y:Int) / (1024:Int)=(((Y >>> 10):Nat):Int):=by rw[Nat.shiftRight_eq_div_pow];simp
 rw[e1,e2,u32_xor_nat _ _ (hmx _ _ hX) (Nat.lt_of_le_of_lt (Nat.shiftRight_le _ _) hX),u32_xor_nat _ _ (hmx _ _ hY) (Nat.lt_of_le_of_lt (Nat.shiftRight_le _ _) hY)];simp only[IntKind.wrap_u32];omega
set_option maxRecDepth 100000 in
set_option maxHeartbeats 4000000 in
theorem schedule_walk(g o c:Nat)(bs:List Nat)(hl:bs.length=64)(hb:∀b ∈ bs,b<256)(w:World)(hc:∀j:Nat,j<64->w.cell? ⟨g,o+j,none⟩=some (.int .u8 ((bs.getD j 0:Nat):Int))):
  Calls Tryd.prog 107 #[.slice (some ⟨g,o,none⟩) 64 c] w fun e w'=>e=.returned (.agg (nums .u32 (arr bs 48)).toArray)∧Below w.heap.size w w':=by
 go_enter Tryd.func107,Tryd.ntmps107
 go_wp2
 go_loopw [7] (fun i wr=>∃k:Nat,k<=16∧i=.int .i64 (k:Int)∧RowW wr w.heap.size (first bs k)∧Below w.heap.size w wr∧w.heap.size<wr.heap.size) (fun i wr=>16 - (intOf i).toNat)
 case atStart=>
  refine⟨0,by omega,rfl,?_,(Below.refl _ _).alloc (Nat.le_refl _) _,by simp⟩;rw[first_zero];exact Blk.newA w _ _ _ rfl
 case round=>
  obtain⟨k,hk,rfl,hrow,hbel,hsz⟩:=hrel
  by_cases hlt:k<16
  ·have d1:decide ((k:Int)<16)=true:=decide_eq_true (by omega);have hg:g<w.heap.size:=World.block_lt_of_cell? w _ (hc 0 (by omega));obtain⟨q0,hq0⟩:∃q:Nat,q=4*k:=⟨_,rfl⟩
   obtain⟨q1,hq1⟩:∃q:Nat,q=4*k+1:=⟨_,rfl⟩
   obtain⟨q2,hq2⟩:∃q:Nat,q=4*k+2:=⟨_,rfl⟩
   obtain⟨q3,hq3⟩:∃q:Nat,q=4*k+3:=⟨_,rfl⟩
   have hcell:∀q:Nat,q<64->wr.drew.cell? ⟨g,o+q,none⟩=some (.int .u8 ((bs.getD q 0:Nat):Int)):=fun q hq=>(hbel.cell (p:=⟨g,o+q,none⟩) hg).trans (hc q hq)
   obtain⟨b0,hb0⟩:∃b:Nat,b=bs.getD q0 0:=⟨_,rfl⟩
   obtain⟨b1,hb1⟩:∃b:Nat,b=bs.getD q1 0:=⟨_,rfl⟩
   obtain⟨b2,hb2⟩:∃b:Nat,b=bs.getD q2 0:=⟨_,rfl⟩
   obtain⟨b3,hb3⟩:∃b:Nat,b=bs.getD q3 0:=⟨_,rfl⟩
   have hc0:wr.drew.cell? ⟨g,o+q0,none⟩=some (.int .u8 (b0:Int)):=by rw[hb0];exact hcell q0 (by omega)
   have hc1:wr.drew.cell? ⟨g,o+q1,none⟩=some (.int .u8 (b1:Int)):=by rw[hb1];exact hcell q1 (by omega)
   have hc2:wr.drew.cell? ⟨g,o+q2,none⟩=some (.int .u8 (b2:Int)):=by rw[hb2];exact hcell q2 (by omega)
   have hc3:wr.drew.cell? ⟨g,o+q3,none⟩=some (.int .u8 (b3:Int)):=by rw[hb3];exact hcell q3 (by omega)
   have hcd:wr.drew.cell? ⟨w.heap.size,k,none⟩=some (.int .u32 ((first bs k).getD k 0:Nat)):=hrow.cell (nums_get (by rw[first_len];omega));have hfd:wr.drew.frozen? ⟨w.heap.size,k,none⟩=false:=hrow.free k;have hne:g≠w.heap.size:=by omega
   go_wp2
   have f0:((q0:Int)<64)=True:=eq_true (by omega);have f1:((q1:Int)<64)=True:=eq_true (by omega);have f2:((q2:Int)<64)=True:=eq_true (by omega);have f3:((q3:Int)<64)=True:=eq_true (by omega);have fk:((k:Int)<64)=True:=eq_true (by omega);have g0:IntKind.i64.wrap (4*(k:Int))=(q0:Int):=iw (by omega) (by omega);have g1:IntKind.i64.wrap ((q0:Int)+1)=(q1:Int):=iw (by omega) (by omega);have g2:IntKind.i64.wrap ((q0:Int)+2)=(q2:Int):=iw (by omega) (by omega);have g3:IntKind.i64.wrap ((q0:Int)+3)=(q3:Int):=iw (by omega) (by omega);have HX:=Lib.hid (And.intro hq0 (And.intro hq1 (And.intro hq2 (And.intro hq3 (And.intro hb0 (And.intro hb1 (And.intro hb2 (And.intro hb3 (And.intro hrow (And.intro hbel hsz))))))))));clear hq0 hq1 hq2 hq3 hb0 hb1 hb2 hb3 hrow hbel hsz hcell
   go_region_held3 (fun w'=>w'.cell? ⟨g,o+q0,none⟩=some (.int .u8 (b0:Int))∧w'.cell? ⟨g,o+q1,none⟩=some (.int .u8 (b1:Int))∧w'.cell? ⟨g,o+q2,none⟩=some (.int .u8 (b2:Int))∧w'.cell? ⟨g,o+q3,none⟩=some (.int .u8 (b3:Int))) (first |exact⟨hc0,hc1,hc2,hc3⟩ |exact⟨far_set (W:=wr.drew) hne hc0,far_set (W:=wr.drew) hne hc1,far_set (W:=wr.drew) hne hc2,far_set (W:=wr.drew) hne hc3⟩) (fail)
   go_wp2
   go_roundw
   case rel=>
    obtain⟨hq0,hq1,hq2,hq3,hb0,hb1,hb2,hb3,hrow,hbel,hsz⟩:=HX.out;refine⟨k+1,by omega,by go_num,?_,(hbel.setCell (p:=⟨w.heap.size,k,none⟩) (Nat.le_refl _) _).drew,by simpa using hsz⟩;have hwi:=word_is b0 b1 b2 b3 (by rw[hb0];exact getD_lt hb _) (by rw[hb1];exact getD_lt hb _) (by rw[hb2];exact getD_lt hb _) (by rw[hb3];exact getD_lt hb _);simp only[IntKind.wrap_u32] at hwi;rw[hwi];have hw:word b0 b1 b2 b3=wordAt bs k:=by unfold wordAt;rw[hb0,hb1,hb2,hb3,hq0,hq1,hq2,hq3]
    rw[hw, <-first_set bs k (by omega)]
    show Blk _ _ _ (nums .u32 _)
    rw[<-nums_set];exact (Blk.set hrow k _).drew
   case measure=>simp[intOf];omega
  ·obtain rfl:k=16:=by omega
   rw[show ((16:Nat):Int)=16 from rfl]
   go_wp2
   rw[first_arr] at hrow;have hg:g<w.heap.size:=World.block_lt_of_cell? w _ (hc 0 (by omega))
   go_loopw [4] (fun v wr=>∃i:Nat,16<=i∧i<=64∧v=.int .i64 (i:Int)∧RowW wr w.heap.size (arr bs (i - 16))∧Below w.heap.size w wr∧w.heap.size<wr.heap.size) (fun v wr=>64 - (intOf v).toNat)
   case atStart=>exact⟨16,by omega,by omega,rfl,hrow,hbel,hsz⟩
   case round=>
    clear hrow hbel hsz;obtain⟨i,hi1,hi2,rfl,hrow,hbel,hsz⟩:=hrel
    by_cases hlt:i<64
    ·have d1:decide ((i:Int)<64)=true:=decide_eq_true (by omega);obtain⟨a,ha⟩:∃q:Nat,q=i - 15:=⟨_,rfl⟩
     obtain⟨b,hb'⟩:∃q:Nat,q=i - 2:=⟨_,rfl⟩
     obtain⟨s,hs⟩:∃q:Nat,q=i - 16:=⟨_,rfl⟩
     obtain⟨t,ht⟩:∃q:Nat,q=i - 7:=⟨_,rfl⟩
     have hal:=arr_len bs (i - 16) (by omega);obtain⟨X,hX⟩:∃x:Nat,x=(arr bs (i - 16)).getD a 0:=⟨_,rfl⟩
     obtain⟨Y,hY⟩:∃x:Nat,x=(arr bs (i - 16)).getD b 0:=⟨_,rfl⟩
     obtain⟨U,hU⟩:∃x:Nat,x=(arr bs (i - 16)).getD s 0:=⟨_,rfl⟩
     obtain⟨V,hV⟩:∃x:Nat,x=(arr bs (i - 16)).getD t 0:=⟨_,rfl⟩
     have hX4:X<4294967296:=by rw[hX];exact arr_lt hb _ _
     have hY4:Y<4294967296:=by rw[hY];exact arr_lt hb _ _
     have hil:i<(arr bs (i - 16)).length:=by omega
     have cX:wr.cell? ⟨w.heap.size,a,none⟩=some (.int .u32 (X:Int)):=by rw[hX];exact hrow.cell (nums_get (by omega))
     have cY:wr.cell? ⟨w.heap.size,b,none⟩=some (.int .u32 (Y:Int)):=by rw[hY];exact hrow.cell (nums_get (by omega))
     have cU:wr.cell? ⟨w.heap.size,s,none⟩=some (.int .u32 (U:Int)):=by rw[hU];exact hrow.cell (nums_get (by omega))
     have cV:wr.cell? ⟨w.heap.size,t,none⟩=some (.int .u32 (V:Int)):=by rw[hV];exact hrow.cell (nums_get (by omega))
     have cI:=hrow.cell (nums_get hil);have cF:=hrow.free i
     go_wp2
     have f0:((a:Int)<64)=True:=eq_true (by omega);have f1:((b:Int)<64)=True:=eq_true (by omega);have f2:((s:Int)<64)=True:=eq_true (by omega);have f3:((t:Int)<64)=True:=eq_true (by omega);have f4:((i:Int)<64)=True:=eq_true (by omega);have g0:IntKind.i64.wrap ((i:Int) - 15)=(a:Int):=iw (by omega) (by omega);have g1:IntKind.i64.wrap ((i:Int) - 2)=(b:Int):=iw (by omega) (by omega);have g2:IntKind.i64.wrap ((i:Int) - 16)=(s:Int):=iw (by omega) (by omega);have g3:IntKind.i64.wrap ((i:Int) - 7)=(t:Int):=iw (by omega) (by omega);have HX:=Lib.hid (And.intro ha (And.intro hb' (And.intro hs (And.intro ht (And.intro hX (And.intro hY (And.intro hU (And.intro hV (And.intro hal (And.intro hrow hbel))))))))));have hsi:s≠i:=by omega
     have hti:t≠i:=by omega
     clear ha hb' hs ht hX hY hU hV hal hil hrow hbel hc
     go_quiet (fail)
     go_wp2
     have hcI:∀(k:Nat) (o:Obj),((wr.drewN k).alloc o).cell? ⟨w.heap.size,i,none⟩=some (.int .u32 (((arr bs (i - 16)).getD i 0:Nat):Int)):=fun k o=>c_old (c_drewN cI)
     have hcF:∀(k:Nat) (o:Obj),((wr.drewN k).alloc o).frozen? ⟨w.heap.size,i,none⟩=false:=fun k o=>(World.frozen?_alloc_past _ _ _ hsz).trans cF
     have hs1:w.heap.size<wr.heap.size+1:=by omega
     go_region_held3 (fun w'=>w'.cell? ⟨w.heap.size,s,none⟩=some (.int .u32 (U:Int))∧w'.cell? ⟨w.heap.size,t,none⟩=some (.int .u32 (V:Int))) (first |exact⟨cU,cV⟩ |(refine⟨off_set hsi ?_,off_set hti ?_⟩<;>(repeat (first |exact cU |exact cV |refine c_old ?_ |refine c_drewN ?_))) |(go_keep;done)) (first |(go_at_call 108;(with_reducible refine (mixed2 X hX4 7 18 (by decide) (by decide) _ _ ?_ ?_).mono ?_);(repeat (first |exact c_new _ _ _ _ _ _ rfl (by simp) |refine c_old ?_ |refine c_drewN ?_));(repeat (first |exact c_new _ _ _ _ _ _ rfl (by simp) |refine c_old ?_ |refine c_drewN ?_));rintro e w' ⟨rfl,n,rfl⟩) |(go_at_call 108;(with_reducible refine (mixed2 Y hY4 17 19 (by decide) (by decide) _ _ ?_ ?_).mono ?_);(repeat (first |exact c_new _ _ _ _ _ _ rfl (by simp) |refine c_old ?_ |refine c_drewN ?_));(repeat (first |exact c_new _ _ _ _ _ _ rfl (by simp) |refine c_old ?_ |refine c_drewN ?_));rintro e w' ⟨rfl,n,rfl⟩))
     all_goals
      go_wp2
      go_roundw
      case rel=>
       obtain⟨ha,hb',hs,ht,hX,hY,hU,hV,hal,hrow,hbel⟩:=HX.out;have hrr:∀W:World,Below wr.heap.size wr W->RowW W w.heap.size (arr bs (i - 16)):=fun W hW=>hrow.belowS hW
       have hnn:=next_is X Y U V hX4 hY4;have hnx:(U+(ShaSpec.mix X [7,18] ^^^ (X >>> 3))+V+(ShaSpec.mix Y [17,19] ^^^ (Y >>> 10)))%4294967296=next (grow bs (i - 16)):=by
        rw[hX,hY,hU,hV,ha,hb',hs,ht,arr_at _ _ _ (by omega),arr_at _ _ _ (by omega),arr_at _ _ _ (by omega),arr_at _ _ _ (by omega)];unfold next
        rw[grow_len,show 16+(i - 16) - 16=i - 16 by omega,show 16+(i - 16) - 15=i - 15 by omega,show 16+(i - 16) - 7=i - 7 by omega,show 16+(i - 16) - 2=i - 2 by omega]
       rw[hnx] at hnn;refine⟨i+1,by omega,by omega,by go_num,?_,?_,?_⟩
       ·first |rw[hnn] |(simp only[IntKind.wrap_u32] at hnn;rw[hnn])
        have:=arr_set bs (i - 16) (by omega);rw[show 16+(i - 16)=i by omega] at this;rw[show i+1 - 16=i - 16+1 by omega, <-this]
        show Blk _ _ _ (nums .u32 _)
        rw[<-nums_set];refine Blk.set (hrr _ ?_) i _
        repeat (first |exact Below.refl _ _ |refine below_dN ?_ _ |refine Below.alloc ?_ (by simp) _)
       ·refine Below.setCell (p:=⟨w.heap.size,i,none⟩) ?_ (Nat.le_refl _) _;refine hbel.trans ?_;refine Below.mono (B:=wr.heap.size) ?_ (by omega)
        repeat (first |exact Below.refl _ _ |refine below_dN ?_ _ |refine Below.alloc ?_ (by simp) _)
       ·simp;omega
      case measure=>simp[intOf];omega
    ·obtain rfl:i=64:=by omega
     have hl64:(nums .u32 (arr bs 48)).length=64:=by rw[nums_len];exact arr_len bs 48 (by omega)
     have HL:=Lib.hid hl64;clear hl64;obtain⟨C,hC⟩:∃C,nums .u32 (arr bs 48)=C:=⟨_,rfl⟩
     have hi88:(Tryd.prog.info? 160).map (·.size)=some 64:=by kernel_rfl
     have hll:(nums .u32 (arr bs 48)).length=64:=by rw[nums_len];exact arr_len bs 48 (by omega)
     have HL:=Lib.hid (And.intro hi88 hll);have hrow':Blk wr w.heap.size 160 (nums .u32 (arr bs 48)):=hrow;have hone:=nums_one .u32 (arr bs 48);clear hi88 hll
     go_upto_region 11 with (fail)
     obtain⟨C,hC⟩:∃C,nums .u32 (arr bs 48)=C:=⟨_,rfl⟩
     have HC:=Lib.hid hC;rw[hC] at hrow' hone HL;clear hC;refine wp_region_lit ?_;refine wpList_load_mid rfl _ _ rfl w.heap.size 0 rfl C _ hrow'.range Tryd.underlying160 rfl (by rw[HL.out.1,HL.out.2]) ?_;refine wpList_store_mid rfl _ _ _ rfl w.heap.size 0 C.toArray rfl rfl (by have:=hrow'.there;simpa using this) (by rw[HL.out.1,List.size_toArray,HL.out.2]) hone ?_;have hfin:=hrow'.setSame;have hbel':Below w.heap.size w (wr.setCells w.heap.size 0 C):=below_setCells (Nat.le_refl _) _ _ _ hbel;simp only[Act.put,List.setIfInBounds_toArray,List.set_cons_zero,List.set_cons_succ,List.toList_toArray];generalize wr.setCells w.heap.size 0 C=W at*
     go_wp2
     have hi:(Tryd.prog.info? 160).map (·.size)=some C.toArray.size:=by
      rw[HL.out.1,List.size_toArray,HL.out.2]
     refine bodyPost_ret (v:=.agg C.toArray) ?_ ?_ ?_
     ·refine results_cell_row (p:=2) (ty:=160) rfl _ _ w.heap.size 160 C.toArray (0,0) _ rfl hfin.heap Tryd.underlying160 rfl ?_;exact hi
     ·rfl
     ·exact⟨by rw[HC.out],hbel'⟩
end Go.Proofs.YtfdlmpicmkpabaaDoor.Ext
end
