import Derived.Test.YtfdlmpicmkpabaaDoorMLogbookDecodesbe
import Derived.Test.YtfdlmpicmkpabaaDoorMLogbookDecodesak
import Derived.Laws.AppendOwn
import Derived.Deep.AppendLies
import Derived.Deep.RegionLaw
import Derived.OwnWalk
/-
  Texts of this claim, one behind the other: what they prove stands above each.
-/
set_option linter.unusedVariables false
set_option linter.unusedSimpArgs false
section
namespace Go.Proofs.YtfdlmpicmkpabaaDoor.Ext
set_option maxRecDepth 100000
open Go.RowKit Go.Shelf Go.Proofs.YtfdlmpicmkpabaaDoorW.PrintWords Go.Proofs.YtfdlmpicmkpabaaDoorW.PrintLast Go.Proofs.YtfdlmpicmkpabaaDoorW.PrintMore
attribute [local go_sem] Oper.semAt_some
attribute [local go_sem ↓] Go.wp_at_zero Go.wp_at_succ
section
variable {β α:Type} (e:α) (lf:β->α) (nd:α->α->α)
theorem stack_mem{st:List (α × Nat)}{l:List β}(h:Tree.StackR e lf nd st l):∀y ∈ st,∃s,y.1=Tree.root e lf nd s∧y.2=s.length∧s.length<=l.length:=by
 induction h with
 |nil=>intro y hy;cases hy
 |one x s j hx hs=>intro y hy;rw[List.mem_singleton] at hy;subst hy;exact⟨s,by rw[hx],by rw[hx,hs],Nat.le_refl _⟩
 |cons x y st l m s j k h hx hy hj hs hm ih=>
  intro z hz;subst hm;rcases List.mem_cons.1 hz with rfl |hz
  ·exact⟨s,by rw[hx],by rw[hx,hs],by simp⟩
  ·obtain⟨t,h1,h2,h3⟩:=ih z hz;exact⟨t,h1,h2,by simp;omega⟩
theorem stack_len{st:List (α × Nat)}{l:List β}(h:Tree.StackR e lf nd st l):st.length<=l.length:=by
 induction h with
 |nil=>simp
 |one x s j hx hs=>have:=Nat.two_pow_pos j;simp;omega
 |cons x y st l m s j k h hx hy hj hs hm ih=>subst hm;have:=Nat.two_pow_pos j;simp at ih ⊢;omega
theorem loose_mem{st:List (α × Nat)}{l:List β}(h:Tree.Loose e lf nd st l):∀y ∈ st,∃s,y.1=Tree.root e lf nd s∧y.2=s.length∧s.length<=l.length:=by
 cases h with
 |one x s j hx hs=>intro y hy;rw[List.mem_singleton] at hy;subst hy;exact⟨l,by rw[hx],by rw[hx,hs],Nat.le_refl _⟩
 |cons x y st l m s j k h hx hy hj hs hm=>
  intro z hz;subst hm;rcases List.mem_cons.1 hz with rfl |hz
  ·exact⟨s,by rw[hx],by rw[hx,hs],by simp⟩
  ·obtain⟨t,h1,h2,h3⟩:=stack_mem e lf nd h z hz;exact⟨t,h1,h2,by simp;omega⟩
theorem loose_len{st:List (α × Nat)}{l:List β}(h:Tree.Loose e lf nd st l):0<st.length∧st.length<=l.length:=by
 cases h with
 |one x s j hx hs=>have:=Nat.two_pow_pos j;simp;omega
 |cons x y st l m s j k h hx hy hj hs hm=>subst hm;have:=Nat.two_pow_pos j;have:=stack_len e lf nd h;simp at this ⊢;omega
end
abbrev dE:ByteArray:=hash ⟨#[]⟩
abbrev dL(s:ByteArray):ByteArray:=hash (⟨#[0]⟩++s)
abbrev dN(a b:ByteArray):ByteArray:=hash (⟨#[1]⟩++(a++b))
theorem hash_size(s:ByteArray):(hash s).size=32:=by
 unfold hash str ByteArray.size;rfl
theorem root_size(l:List ByteArray):(Tree.root dE dL dN l).size=32:=by
 rcases l with _ |⟨x,_ |⟨y,l⟩⟩
 ·rw[Tree.root_nil];exact hash_size _
 ·rw[Tree.root_one];exact hash_size _
 ·rw[Tree.root_big _ _ _ (by simp)];exact hash_size _
def Stk(w:World)(N:Nat)(v3 v4:Value)(st:List (ByteArray × Nat)):Prop:=
 w.ownsRow N 9 1 v3 st.length ((st.reverse.map (·.1)).map Value.string)∧w.ownsRow N 3 1 v4 st.length ((st.reverse.map (·.2)).map fun x:Nat=>Value.int .i64 (x:Int))
theorem Stk.below{w w':World}{N:Nat}{v3 v4:Value}{st:List (ByteArray × Nat)}(h:Stk w N v3 v4 st)(hb:Below w.heap.size w w'):Stk w' N v3 v4 st:=
 ⟨h.1.kept (below_grown (B:=0) hb none) (by rcases hh:v3.ownBlock with _ |k;exact .inl rfl;exact .inr (by simp)),h.2.kept (below_grown (B:=0) hb none) (by rcases hh:v4.ownBlock with _ |k;exact .inl rfl;exact .inr (by simp))⟩
theorem strs_cell{w:World}{ad:Addr}{n:Nat}{l:List ByteArray}(h:Kd.C Kd.string w (some ad) n l){j:Nat}{x:ByteArray}(hj:l[j]?=some x):w.cell? (ad.add j)=some (.string x):=by
 have hn:0<n:=by have:=(List.getElem?_eq_some_iff.1 hj).1;have:=h.1;omega
 obtain⟨ad',he,hc⟩:=h.2.2 hn;injection he with he
 subst he;obtain⟨cs,h1,h2,h3⟩:=hc j x hj;have h4:=h3 0 (.string x) (by
  have:cs=[.string x]:=h2;rw[this];rfl)
 simpa [Kd.string,Kd.scalar] using h4
theorem rows_ne{w:World}{N e1 e2 n m:Nat}{v3 v4:Value}{xs ys:List Value}(h1:w.ownsRow N e1 1 v3 n xs)(h2:w.ownsRow N e2 1 v4 m ys)(hne:e1≠e2):v4.ownBlock=none∨v4.ownBlock≠v3.ownBlock:=by
 rcases h2.2 with ⟨rfl,_⟩ |⟨g,cap,cur,rfl,hg,hh,_⟩
 ·exact .inl rfl
 ·refine .inr fun e=>?_
  rcases h1.2 with ⟨rfl,_⟩ |⟨g',cap',cur',rfl,hg',hh',_⟩
  ·simp[Value.ownBlock] at e
  ·simp only[Value.ownBlock,Option.some.injEq] at e;subst e;rw[hh] at hh';injection hh' with hh'
   injection hh' with _ hh' _
   exact hne hh'.symm
theorem own_keep{w w':World}{N e n:Nat}{v:Value}{xs:List Value}(h:w.ownsRow N e 1 v n xs)(hb:Below w.heap.size w w'):w'.ownsRow N e 1 v n xs:=h.kept (below_grown (B:=0) hb none) (by rcases hh:v.ownBlock with _ |k;exact .inl rfl;exact .inr (by simp))
theorem own_base'{w:World}{N e n:Nat}{v:Value}{xs:List Value}(h:w.ownsRow N e 1 v n xs):∀k,v.ownBlock=some k->N<=k:=fun k hk=>(h.lt k hk).1
theorem stk_grown{w1 w2 w3:World}{N:Nat}{v3 v4 v3' v4':Value}{st st':List (ByteArray × Nat)}{y:ByteArray}{m:Nat}{o1 o2:Obj}(hN:N<=w1.heap.size)
  (h3:w1.ownsRow N 9 1 v3 st.length ((st.reverse.map (·.1)).map Value.string)) (h4:w1.ownsRow N 3 1 v4 st'.length ((st'.reverse.map (·.2)).map fun x:Nat=>Value.int .i64 (x:Int)))
  (k3:w2.ownsRow N 9 1 v3' (st.length+1) ((st.reverse.map (·.1)).map Value.string++[.string y])) (g3:(w1.alloc o1).grownBy w2 v3.ownBlock)
  (k4:w3.ownsRow N 3 1 v4' (st.length+1) ((st.reverse.map (·.2)).map (fun x:Nat=>Value.int .i64 (x:Int))++[.int .i64 (m:Int)])) (g4:(w2.alloc o2).grownBy w3 v4.ownBlock) (hv:w2.ownsRow N 3 1 v4 st'.length ((st'.reverse.map (·.2)).map fun x:Nat=>Value.int .i64 (x:Int))):
  Stk w3 N v3' v4' ((y,m)::st)∧Below N w1 w3:=by
 refine⟨⟨?_,?_⟩,?_⟩
 ·have:=(k3.alloc o2).kept g4 (rows_ne (hv.alloc o2) (k3.alloc o2) (by decide))
  simpa using this
 ·simpa using k4
 ·have b1:Below N w1 w2:=Below.grown ((Below.refl _ _).alloc hN _) g3 (by simp;omega) (own_base' h3);have hs:=b1.size;exact b1.trans (Below.grown ((Below.refl _ _).alloc (by omega) _) g4 (by simp;omega) (own_base' h4))
theorem own_take{w:World}{N e n m g c:Nat}{xs:List Value}(h:w.ownsRow N e 1 (.slice (some ⟨g,0,none⟩) n c) n xs)(hm:m<=n):w.ownsRow N e 1 (.slice (some ⟨g,0,none⟩) m c) m (xs.take m):=by
 obtain⟨h1,h2⟩:=h;refine⟨by rw[List.length_take,h1];omega,?_⟩;rcases h2 with ⟨he,_⟩ |⟨g',cap,cur,he,hg,hh,hn,hc,hs,ht⟩
 ·cases he
 ·injection he with he1 he2 he3
  injection he1 with he1
  injection he1 with he1
  subst he1;subst he3;refine .inr ⟨_,_,cur,rfl,hg,hh,by omega,hc,hs,?_⟩;rw[<-ht,List.take_take,Nat.mul_one,Nat.mul_one,Nat.min_eq_left hm]
theorem backs_snd{α:Type}(d:α)(ys:List α):(backs d ys).map (·.2)=ys.reverse:=by
 apply List.ext_getElem
 ·simp[backs]
 ·intro i h1 h2;simp only[List.length_reverse] at h2;simp[backs,List.getD_eq_getElem?_getD];rw[List.getElem?_eq_getElem (by omega)];rfl
def val(x:ByteArray)(pre:List (Nat × ByteArray)):ByteArray:=(pre.map (·.2)).foldl (fun o r=>dN r o) x
theorem val_snoc(x:ByteArray)(pre:List (Nat × ByteArray))(p:Nat × ByteArray):val x (pre++[p])=dN p.2 (val x pre):=by simp[val]
theorem val_size(x:ByteArray)(hx:x.size=32)(pre:List (Nat × ByteArray)):(val x pre).size=32:=by
 rcases List.eq_nil_or_concat pre with rfl |⟨l,p,rfl⟩
 ·exact hx
 ·rw[List.concat_eq_append,val_snoc];exact hash_size _
theorem fold_is(x:ByteArray)(l:List ByteArray):Tree.foldR dN x l=l.foldl (fun o r=>dN r o) x:=by
 induction l generalizing x with
 |nil=>rfl
 |cons r l ih=>rw[Tree.foldR,ih];rfl
theorem infoQ9:(Tryd.prog.info? 9).map (fun i=>(i.zero,i.size,i.bytes))=some (some (.string ⟨#[]⟩),1,16):=by kernel_rfl
theorem infoQ3':(Tryd.prog.info? 3).map (fun i=>(i.zero,i.size,i.bytes))=some (some (.int .i64 0),1,8):=by kernel_rfl
set_option maxRecDepth 100000 in
set_option maxHeartbeats 1000000 in
theorem Root_walk(A:Option Addr)(c:Nat)(l:List ByteArray)(w:World)(hG:GL w)(hr:Kd.C Kd.string w A l.length l)(hc:l.length<=c)(hn:l.length<=1000000)(hs:∀x ∈ l,x.size<=140737488349000):
  Calls Tryd.prog 49 #[.slice A l.length c] w fun e w'=>e=.returned (.string (Tree.root dE dL dN l))∧Below w.heap.size w w':=by
 obtain⟨i0,hi,hz0,hz1,hz2⟩:=info_parts infoQ9;obtain⟨j0,hj,hy0,hy1,hy2⟩:=info_parts infoQ3';refine calls_of_wp_marks Tryd.func49 rfl ?_;simp only[Tryd.ntmps49,List.size_toArray,List.length_cons,List.length_nil,Nat.reduceAdd,Nat.reduceSub,Array.replicate_succ,Array.replicate_zero,List.push_toArray,List.append_toArray,List.nil_append,List.cons_append];obtain⟨n,hnl⟩:∃n,l.length=n:=⟨_,rfl⟩
 rw[hnl] at hr hc hn;rw[hnl];have HR:=Lib.hid hr;have HN:=Lib.hid hnl;have HG:=Lib.hid hG;have HS:=Lib.hid hs;clear hr hnl hG hs;have hi64:(n:Int)<=1000000:=by omega
 go_wp2
 go_loopw [13,3,4] (fun i v3 v4 wr=>∃(k:Nat) (st:List (ByteArray × Nat)),k<=n∧i=.int .i64 (k:Int)∧Hid (Tree.StackR dE dL dN st (l.take k))∧Hid (Stk wr w.heap.size v3 v4 st)∧Below w.heap.size w wr) (fun i v3 v4 wr=>n - (intOf i).toNat)
 case atStart=>exact⟨0,[],by omega,rfl,Lib.hid .nil,Lib.hid ⟨World.ownsRow_nil _ _ _ _,World.ownsRow_nil _ _ _ _⟩,Below.refl _ _⟩
 case round=>
  obtain⟨k,st,hk,rfl,hst,hstk,hbel⟩:=hrel
  by_cases hlt:k<n
  ·obtain⟨x,hx⟩:∃x,l[k]?=some x:=⟨l[k]'(by rw[HN.out];exact hlt),List.getElem?_eq_getElem _⟩
   obtain⟨ad,hA,hcc⟩:=HR.out.2.2 (by omega);subst hA;have hcell:wr.cell? (ad.add k)=some (.string x):=by
    have h0:=strs_cell HR.out hx;rw[hbel.cell (World.block_lt_of_cell? w _ h0)];exact h0
   have hxs:x.size<=140737488349000:=HS.out x (List.mem_of_getElem? hx);have HX:=Lib.hid hx;clear hx hcc;obtain⟨q,hq⟩:∃q,st.length=q:=⟨_,rfl⟩
   have hqk:q<=k:=by
    have:=stack_len _ _ _ hst.out;rw[hq] at this;exact Nat.le_trans this (List.length_take_le _ _)
   obtain⟨ws,hws⟩:∃ws,(st.reverse.map (·.1)).map Value.string=ws:=⟨_,rfl⟩
   obtain⟨zs,hzs⟩:∃zs,(st.reverse.map (·.2)).map (fun x:Nat=>Value.int .i64 (x:Int))=zs:=⟨_,rfl⟩
   have HW:=Lib.hid (And.intro hq (And.intro hws hzs));have ho3:=hstk.out.1;have ho4:=hstk.out.2;rw[hq,hws] at ho3;rw[hq,hzs] at ho4;have HO:=Lib.hid (And.intro ho3 ho4);have hNr:w.heap.size<=wr.heap.size:=hbel.size;have hGr:=HG.out.below hbel;have HGr:=Lib.hid hGr;clear hq hws hzs ho3 ho4 hGr
   go_upto_region 7 with (first |(go_at_call 78;refine (Leaf_walk x hxs _ HGr.out).mono ?_;rintro e w1 ⟨rfl,hb1⟩) |(at_builtin;refine wpList_append_own _ (by rfl) (.tmp 17) (.tmp 20) 35 (by rfl) w.heap.size 9 i0 _ 1 16 Tryd.underlying35 hi hz0 hz1 hz2 (by rfl) (by decide) u3 q ws (by rfl) ((own_keep HO.out.1 hb1).alloc _) ⟨w1.heap.size,0,none⟩ 1 1 [.string (dL x)] (by rfl) rfl (cell_one_new _ _ _) (by simp[Value.oneCell']) (by unfold maxLen;omega) (by omega) (by have:=hb1.size;simp;omega) ?_;intro v3' w2 hown3 hg3 hnil3;have HA:=Lib.hid (((own_keep HO.out.2 hb1).alloc (.cells #[.string (dL x)] 9)).kept hg3 (rows_ne ((own_keep HO.out.1 hb1).alloc (.cells #[.string (dL x)] 9)) ((own_keep HO.out.2 hb1).alloc (.cells #[.string (dL x)] 9)) (by decide)))) |(at_builtin;refine wpList_append_own _ (by rfl) (.tmp 22) (.tmp 23) 36 (by rfl) w.heap.size 3 j0 _ 1 8 Tryd.underlying36 hj hy0 hy1 hy2 (by rfl) (by decide) u4 q zs (by rfl) (HA.out.alloc _) ⟨w2.heap.size,0,none⟩ 1 1 [.int .i64 1] (by rfl) rfl (cell_one_new _ _ _) (by simp[Value.oneCell']) (by unfold maxLen;omega) (by omega) (by have:=hb1.size;have:=hg3.size;simp at this ⊢;omega) ?_;intro v4' w3 hown4 hg4 hnil4) |fail)
   obtain⟨hstk3,hb3⟩:=stk_grown (st:=st) (st':=st) (y:=dL x) (m:=1) (N:=w.heap.size) (by have:=hb1.size;omega) (by have:=own_keep HO.out.1 hb1;rw[<-HW.out.2.1, <-HW.out.1] at this;exact this) (by have:=own_keep HO.out.2 hb1;rw[<-HW.out.2.2, <-HW.out.1] at this;exact this)
    (by have:=hown3;rw[<-HW.out.2.1, <-HW.out.1] at this;exact this) hg3 (by have:=hown4;rw[<-HW.out.2.2, <-HW.out.1] at this;exact this) hg4 (by have:=HA.out;rw[<-HW.out.2.2, <-HW.out.1] at this;exact this)
   have hl1:Tree.Loose dE dL dN ((dL x,1)::st) (l.take (k+1)):=by
    have h1:=Tree.StackR.push dE dL dN hst.out x;rw[List.take_add_one,HX.out];exact h1
   have hbel3:Below w.heap.size w w3:=(hbel.trans (hb1.mono hNr)).trans hb3;have HL:=Lib.hid hl1;have HS3:=Lib.hid hstk3;clear hstk3 hl1 hown3 hg3 hnil3 HA hown4 hg4 hnil4 hb3 hb1 HO HW hstk hst HGr;obtain⟨st1,hst1⟩:∃st1,(dL x,1)::st=st1:=⟨_,rfl⟩
   rw[hst1] at HL HS3;clear hst1 hqk hbel hNr
   have hown:w3.ownsRow w.heap.size 3 1 v4' st1.length ((st1.reverse.map (·.2)).map fun x:Nat=>Value.int .i64 (x:Int)):=HS3.out.2;obtain⟨q1,hq1⟩:∃q1,st1.length=q1:=⟨_,rfl⟩
   have hq1k:0<q1∧q1<=k+1:=by
    have:=loose_len _ _ _ HL.out;rw[hq1] at this;exact⟨this.1,Nat.le_trans this.2 (List.length_take_le _ _)⟩
   rw[hq1] at hown;obtain⟨g4,c4,hv4⟩:∃g cap,v4'=.slice (some ⟨g,0,none⟩) q1 cap:=by
    obtain⟨p,rfl⟩:∃p,q1=p+1:=⟨q1 - 1,by omega⟩
    exact ownsRow_succ hown
   have HQ1:=Lib.hid hq1;clear hown hq1;subst hv4
   go_wp2
   obtain⟨wo,rfl⟩:∃wo:World,wo=w3:=⟨_,rfl⟩
   go_loopw [7,3,4] (fun i v3 v4 wr=>∃(st2:List (ByteArray × Nat)) (q:Nat),0<q∧q<=k+1∧i=.int .i64 (q:Int)∧Hid (st2.length=q)∧Hid (Tree.Loose dE dL dN st2 (l.take (k+1)))∧Hid (Stk wr w.heap.size v3 v4 st2)∧Below w.heap.size w wr) (fun i v3 v4 wr=>(intOf i).toNat)
   case atStart=>exact⟨st1,q1,hq1k.1,hq1k.2,rfl,HQ1,HL,HS3,hbel3⟩
   case round=>
    clear HL HS3 hbel3 HQ1 hq1k;obtain⟨st2,q,hq0,hqk,rfl,hq,HL,HS2,hbel2⟩:=hrel
    by_cases h1:q=1
    ·subst h1;have d1:decide ((1:Int)<((1:Nat):Int))=false:=by decide
     have hst3:Tree.StackR dE dL dN st2 (l.take (k+1)):=by
      have h:=hq.out
      match st2,h,HL with
      | [x2],_,HL=>exact Tree.Loose.single _ _ _ HL.out
     have HST:=Lib.hid hst3;have hs2:Stk wr.drew w.heap.size u3 u4 st2:=HS2.out;clear hst3 hs2
     go_wp2
     go_quiet (fail)
     go_wp2
     go_roundw
     case rel=>exact⟨k+1,st2,by omega,by go_num,HST,Lib.hid HS2.out,below_dN hbel2 _⟩
     case measure=>simp[intOf];omega
    ·have d1:decide ((1:Int)<(q:Int))=true:=decide_eq_true (by omega);obtain⟨x2,y2,rest,hst2⟩:∃x2 y2 rest,st2=x2::y2::rest:=by
      have h:=hq.out
      match st2,h with
      | [],h=>simp at h;omega
      | [a],h=>simp at h;omega
      |a::b::r,h=>exact⟨a,b,r,rfl⟩
     subst hst2;obtain⟨a,ha⟩:∃a,rest.length=a:=⟨_,rfl⟩
     have hqa:q=a+2:=by have:=hq.out;simp at this;omega
     have ho3:=HS2.out.1;have ho4:=HS2.out.2;rw[hq.out] at ho3 ho4;obtain⟨g3,c3,hv3⟩:∃g cap,u3=.slice (some ⟨g,0,none⟩) q cap:=by subst hqa;exact ownsRow_succ ho3
     obtain⟨g4,c4,hv4⟩:∃g cap,u4=.slice (some ⟨g,0,none⟩) q cap:=by subst hqa;exact ownsRow_succ ho4
     subst hv3;subst hv4;obtain⟨b,hb⟩:∃b,b=a+1:=⟨_,rfl⟩
     have e3:=ho3.cells (g:=g3) rfl;have e4:=ho4.cells (g:=g4) rfl;have s4a:wr.cell? ⟨g4,a,none⟩=some (.int .i64 (y2.2:Int)):=by
      have:=e4 a (.int .i64 (y2.2:Int)) (by simp[ha])
      rwa [Addr.add_mid,Nat.zero_add] at this
     have s4b:wr.cell? ⟨g4,b,none⟩=some (.int .i64 (x2.2:Int)):=by
      rw[hb];have:=e4 (a+1) (.int .i64 (x2.2:Int)) (by simp[ha])
      rwa [Addr.add_mid,Nat.zero_add] at this
     have s3a:wr.cell? ⟨g3,a,none⟩=some (.string y2.1):=by
      have:=e3 a (.string y2.1) (by simp[ha])
      rwa [Addr.add_mid,Nat.zero_add] at this
     have s3b:wr.cell? ⟨g3,b,none⟩=some (.string x2.1):=by
      rw[hb];have:=e3 (a+1) (.string x2.1) (by simp[ha])
      rwa [Addr.add_mid,Nat.zero_add] at this
     have i0':(0:Int)<=(a:Int):=by omega
     have g1:IntKind.i64.wrap ((q:Int) - 2)=(a:Int):=iw (by omega) (by omega);have g2:IntKind.i64.wrap ((q:Int) - 1)=(b:Int):=iw (by omega) (by omega);have b1:(a:Int)<(q:Int):=by omega
     have b2:(b:Int)<(q:Int):=by omega
     have b3:(0:Int)<=(b:Int):=by omega
     have HO:=Lib.hid (And.intro ho3 ho4);have HA:=Lib.hid (And.intro ha (And.intro hqa hb));clear ho3 ho4 e3 e4 ha hqa hb
     by_cases heq:y2.2=x2.2
     ·have qe:((y2.2:Int)==(x2.2:Int))=true:=by simp[heq]
      have HEQ:=Lib.hid heq;clear heq
      go_wp2
      go_quiet (fail)
      go_wp2
      have hcap3:q<=c3:=by
       rcases HO.out.1.2 with ⟨he,_⟩ |⟨g',cap,cur,he,_,_,hn',_⟩
       ·cases he
       ·injection he with _ _ he3;omega
      have hcap4:q<=c4:=by
       rcases HO.out.2.2 with ⟨he,_⟩ |⟨g',cap,cur,he,_,_,hn',_⟩
       ·cases he
       ·injection he with _ _ he3;omega
      have hac3:(a:Int)<=(c3:Int):=by omega
      have hac4:(a:Int)<=(c4:Int):=by omega
      have haq:=HA.out.2.1;have HAQ:=Lib.hid haq;clear haq;have haq2:a+2<=q:=by rw[HAQ.out];exact Nat.le_refl _
      have hmem:=loose_mem _ _ _ HL.out;have hy32:y2.1.size=32:=by
       obtain⟨t,h1,_⟩:=hmem y2 (by simp);rw[h1];exact root_size _
      have hx32:x2.1.size=32:=by
       obtain⟨t,h1,_⟩:=hmem x2 (by simp);rw[h1];exact root_size _
      have hxy:y2.1.size+x2.1.size<=140737488349000:=by omega
      have hx2n:x2.2<=1000000:=by
       obtain⟨t,_,h2,h3⟩:=hmem x2 (by simp);rw[h2];have:=List.length_take_le (k+1) l;have:=HN.out;omega
      have hGq:GL (wr.drewN (nq+1)):=HG.out.below (below_dN hbel2 (nq+1));have HGq:=Lib.hid hGq;have hNq:w.heap.size<=wr.heap.size:=hbel2.size;clear hmem hy32 hx32 hGq;obtain⟨ws,hws⟩:∃ws,((x2::y2::rest).reverse.map (·.1)).map Value.string=ws:=⟨_,rfl⟩
      obtain⟨zs,hzs⟩:∃zs,((x2::y2::rest).reverse.map (·.2)).map (fun x:Nat=>Value.int .i64 (x:Int))=zs:=⟨_,rfl⟩
      have ho3:=HO.out.1;have ho4:=HO.out.2;rw[hws] at ho3;rw[hzs] at ho4;have HOO:=Lib.hid (And.intro (own_take ho3 (show a<=q by omega)) (And.intro ho3 ho4));have HWZ:=Lib.hid (And.intro hws hzs);clear ho3 ho4 hws hzs HO;refine wp_region_noPanic ?_
      go_region_law (first |(go_simp;go_at_call 77;refine (Node_walk y2.1 x2.1 hxy _ HGq.out).mono ?_;rintro e w4 ⟨rfl,hb4⟩;have HW4:=Lib.hid (own_keep (w:=wr.drewN (nq+1)) HOO.out.1 hb4)) |(refine step_append_lies _ (by rfl) (.tmp 47) (.tmp 59) 35 (by rfl) w.heap.size 9 i0 _ 1 16 Tryd.underlying35 hi hz0 hz1 hz2 (by rfl) (by decide) (.slice (some ⟨g3,0,none⟩) a c3) a (ws.take a) (by rfl) (HW4.out.alloc _) ⟨w4.heap.size,0,none⟩ 1 1 [.string (dN y2.1 x2.1)] (by rfl) rfl (cell_one_new _ _ _) (by simp[Value.oneCell']) (by decide) (by unfold maxLen;omega) (by omega) (by have:=hb4.size;simp at this ⊢;omega) (w4.heap.size+1) (by simp) ?_;intro g5 c5 w5 hown5 hg5 hat5 hlt5) |fail)
      all_goals
       refine NoPanic.normal ?_;have hown4':w5.ownsRow w.heap.size 3 1 (.slice (some ⟨g4,0,none⟩) q c4) q zs:=((own_keep (w:=wr.drewN (nq+1)) HOO.out.2.2 hb4).alloc (.cells #[.string (dN y2.1 x2.1)] 9)).kept hg5 (rows_ne (HW4.out.alloc (.cells #[.string (dN y2.1 x2.1)] 9)) ((own_keep (w:=wr.drewN (nq+1)) HOO.out.2.2 hb4).alloc (.cells #[.string (dN y2.1 x2.1)] 9)) (by decide));have hx5:w5.cell? ⟨g4,b,none⟩=some (.int .i64 (x2.2:Int)):=by
        have hz:=HWZ.out.2;have:=hown4'.cells (g:=g4) rfl b (.int .i64 (x2.2:Int)) (by rw[<-hz,HA.out.2.2];simp[HA.out.1])
        rwa [Addr.add_mid,Nat.zero_add] at this
       have hN5:w.heap.size<=w5.heap.size:=by
        have h1:=hb4.size;have h2:=hg5.size;simp at h1 h2;omega
       obtain⟨m2,hm2⟩:∃m,m=2*x2.2:=⟨_,rfl⟩
       have g5':IntKind.i64.wrap (2*(x2.2:Int))=(m2:Int):=iw (by omega) (by omega);have HM2:=Lib.hid hm2;clear hm2;have HW5:=Lib.hid (own_take hown4' (show a<=q by omega));have HX5:=Lib.hid hown4';clear hown4'
       go_wp2
       refine wp_region_noPanic ?_
       go_region_law (first |(refine step_append_lies _ (by rfl) (.tmp 64) (.tmp 71) 36 (by rfl) w.heap.size 3 j0 _ 1 8 Tryd.underlying36 hj hy0 hy1 hy2 (by rfl) (by decide) (.slice (some ⟨g4,0,none⟩) a c4) a (zs.take a) (by rfl) (HW5.out.alloc _) ⟨w5.heap.size,0,none⟩ 1 1 [.int .i64 (m2:Int)] (by rfl) rfl (cell_one_new _ _ _) (by simp[Value.oneCell']) (by decide) (by unfold maxLen;omega) (by omega) (by simp;omega) (w5.heap.size+1) (by simp) ?_;intro g6 c6 w6 hown6 hg6 hat6 hlt6) |fail)
       refine NoPanic.normal ?_;have hg6':(w5.alloc (.cells #[.int .i64 (m2:Int)] 3)).grownBy w6 (Value.slice (some ⟨g4,0,none⟩) a c4).ownBlock:=⟨hg6.os,hg6.tape,hg6.output,hg6.size,hg6.block⟩;clear hg6
       go_wp2
       go_roundw
       case rel=>
        have t3:ws.take a=(rest.reverse.map (·.1)).map Value.string:=by rw[<-HWZ.out.1, <-HA.out.1];simp
        have t4:zs.take a=(rest.reverse.map (·.2)).map (fun x:Nat=>Value.int .i64 (x:Int)):=by rw[<-HWZ.out.2, <-HA.out.1];simp
        have hjoin:=Tree.Loose.join _ _ _ HL.out HEQ.out;rw[<-HM2.out] at hjoin;refine⟨(dN y2.1 x2.1,m2)::rest,b,by have:=HA.out.2.2;omega,by have:=HA.out.2.2;omega,rfl,Lib.hid (by have:=HA.out;simp;omega),Lib.hid hjoin,Lib.hid ⟨?_,?_⟩,?_⟩
        ·have:=(hown5.alloc (.cells #[.int .i64 (m2:Int)] 3)).kept hg6' (rows_ne (HW5.out.alloc (.cells #[.int .i64 (m2:Int)] 3)) (hown5.alloc (.cells #[.int .i64 (m2:Int)] 3)) (by decide));rw[t3] at this;have hl:((dN y2.1 x2.1,m2)::rest).length=a+1:=by rw[List.length_cons,HA.out.1]
         rw[hl]
         simpa using this
        ·have:=hown6;rw[t4] at this;have hl:((dN y2.1 x2.1,m2)::rest).length=a+1:=by rw[List.length_cons,HA.out.1]
         rw[hl]
         simpa using this
        ·have b1:Below w.heap.size w w4:=(below_dN hbel2 (nq+1)).trans (hb4.mono hNq);have hs4:w.heap.size<=w4.heap.size:=b1.size;have b2:Below w.heap.size w w5:=Below.grown (b1.alloc hs4 _) hg5 (by simp;omega) (own_base' HW4.out);exact Below.grown (b2.alloc hN5 _) hg6' (by simp;omega) (own_base' HW5.out)
       case measure=>have:=HA.out;simp[intOf];omega
     ·have qe:((y2.2:Int)==(x2.2:Int))=false:=by simp;omega
      have hst3:=Tree.Loose.stop _ _ _ HL.out heq;have HST:=Lib.hid hst3;clear hst3 heq
      go_wp2
      go_quiet (fail)
      go_wp2
      go_roundw
      case rel=>exact⟨k+1,_,by omega,by go_num,HST,Lib.hid HS2.out,below_dN hbel2 _⟩
      case measure=>simp[intOf];omega
  ·obtain rfl:k=n:=by omega
   have htk:l.take k=l:=by rw[List.take_of_length_le (by rw[HN.out];exact Nat.le_refl _)]
   have hst':=hst.out;rw[htk] at hst';have hG1:=HG.out.below hbel;have HG1:=Lib.hid hG1;clear hG1 htk hst
   match st,hst',hstk with
   | [],hst',hstk=>
    cases hst'
    have h3:∃A' c',u3=.slice A' 0 c':=by
     rcases hstk.out.1.2 with ⟨h,_⟩ |⟨g,cap,cur,h,_⟩
     ·exact⟨_,_,h⟩
     ·exact⟨_,_,h⟩
    obtain⟨A',c',rfl⟩:=h3;have hsz0:(⟨#[]⟩:ByteArray).size<=140737488350000:=by decide
    go_wp2_with (first |(go_at_call 79;refine (Sum_walk ⟨#[]⟩ hsz0 _ HG1.out).mono ?_;rintro e w9 ⟨rfl,hb9⟩) |fail)
    refine⟨_,results_tmp rfl _ _ _,?_,hbel.trans (hb9.mono hbel.size)⟩;rw[Tree.root_nil];rfl
   |x::rest,hst',hstk=>
    have HST:=Lib.hid hst';clear hst';obtain⟨q,hq⟩:∃q,rest.length=q:=⟨_,rfl⟩
    have ho3:=hstk.out.1;rw[List.length_cons,hq] at ho3;obtain⟨g3,c3,hv3⟩:∃g cap,u3=.slice (some ⟨g,0,none⟩) (q+1) cap:=ownsRow_succ ho3
    subst hv3;have hqn:q+1<=1000000:=by
     have:=stack_len _ _ _ HST.out;rw[List.length_cons,hq,HN.out] at this;omega
    have hxl:wr.cell? ⟨g3,q,none⟩=some (.string x.1):=by
     have:=ho3.cells (g:=g3) rfl q (.string x.1) (by simp[hq])
     rwa [Addr.add_mid,Nat.zero_add] at this
    have hcap:q+1<=c3:=by
     rcases ho3.2 with ⟨he,_⟩ |⟨g',cap,cur,he,_,_,hn',_⟩
     ·cases he
     ·injection he with _ _ he3;omega
    have hqc:(q:Int)<=(c3:Int):=by omega
    have HQ:=Lib.hid hq;have HO:=Lib.hid ho3;clear hq ho3
    go_wp2_with (first |(go_at_call 80;refine (back_walk _ _ _ _).mono ?_;rintro e w9 ⟨rfl,rfl⟩) |fail)
    obtain⟨cur,hcur,hct⟩:∃cur:Array Value,Blk wr g3 9 cur.toList∧cur.toList.take (q+1)=(((x::rest).reverse.map (·.1)).map Value.string):=by
     rcases HO.out.2 with ⟨he,_⟩ |⟨g',cap,cur,he,_,hh,_,_,_,ht⟩
     ·cases he
     ·injection he with he1
      injection he1 with he1
      injection he1 with he1
      subst he1;exact⟨cur,by simpa [Blk] using hh,by rw[Nat.mul_one] at ht;exact ht⟩
    have hys:∀(j:Nat) (y:ByteArray),(rest.map (·.1)).reverse[j]?=some y->cur.toList[j]?=some (Value.string y):=by
     intro j y hj;have hjq:j<q:=by have:=(List.getElem?_eq_some_iff.1 hj).1;simp[HQ.out] at this;exact this
     have h1:(cur.toList.take (q+1))[j]?=some (Value.string y):=by
      rw[hct];simp only[List.reverse_cons,List.map_append,List.map_reverse,List.map_map];rw[List.getElem?_append_left (by simp[HQ.out];omega)];rw[<-List.map_map, <-List.map_reverse,List.getElem?_map,hj];rfl
     rw[List.getElem?_take] at h1;rw[if_pos (by omega)] at h1;exact h1
    have hgw:g3<wr.heap.size:=hcur.lt;have hB0:Blk ((wr.alloc (.cells #[.string x.1] 9)).alloc (.cells #[.slice (some ⟨g3,0,none⟩) q c3] 35)) (wr.heap.size+1) 35 [.slice (some ⟨g3,0,none⟩) q c3]:=cast_blk (Blk.newA _ _ _ _ rfl) (by simp);have hO0:Blk ((wr.alloc (.cells #[.string x.1] 9)).alloc (.cells #[.slice (some ⟨g3,0,none⟩) q c3] 35)) wr.heap.size 9 [.string x.1]:=(Blk.newA _ _ _ _ rfl).alloc _;have hC0:Blk ((wr.alloc (.cells #[.string x.1] 9)).alloc (.cells #[.slice (some ⟨g3,0,none⟩) q c3] 35)) g3 9 cur.toList:=(hcur.alloc _).alloc _;have hsz0:((wr.alloc (.cells #[.string x.1] 9)).alloc (.cells #[.slice (some ⟨g3,0,none⟩) q c3] 35)).heap.size=wr.heap.size+2:=by simp
    have hbW:Below wr.heap.size wr ((wr.alloc (.cells #[.string x.1] 9)).alloc (.cells #[.slice (some ⟨g3,0,none⟩) q c3] 35)):=((Below.refl _ _).alloc (Nat.le_refl _) _).alloc (by simp) _;have hgiv:=back1_gives (wr.heap.size+1) g3 q c3 9 (rest.map (·.1)).reverse (by simp[HQ.out]) (by omega) cur.toList hys _ hB0 hC0;have hGW0:=HG1.out.below hbW;have h32:∀y ∈ x::rest,y.1.size=32:=by
     intro y hy;obtain⟨t,h1,_⟩:=stack_mem _ _ _ HST.out y hy;rw[h1];exact root_size _
    have HH:=Lib.hid (And.intro hys (And.intro hct (And.intro h32 hGW0)));clear hys hct h32 hGW0 hcur;generalize ((wr.alloc (.cells #[.string x.1] 9)).alloc (.cells #[.slice (some ⟨g3,0,none⟩) q c3] 35))=W0 at*
    refine wp_rangeFunc_one (gf:=97) (lb:= #[.pointer (some ⟨wr.heap.size+1,0,none⟩)]) rfl (enters_of Tryd.func97 (by kernel_rfl) rfl) (KS:=fun k=>k=wr.heap.size+1∨k=g3) (by intro k hk;omega) hgiv (Below.refl _ _) (fun _=>rfl)
     (fun pre W=>Blk W wr.heap.size 9 [.string (val x.1 pre)]∧W0.grownBy W (some wr.heap.size)) (OwnFrom.and (own_blk _ (by omega)) (own_grown _ (Nat.le_refl _))) ⟨hO0,⟨rfl,rfl,rfl,Nat.le_refl _,fun _ _ _=>rfl⟩⟩ ?body ?done
    case body=>
     intro l' pre p W hI hpre;obtain⟨hbW1,hgr⟩:=hI;have hp32:p.2.size=32:=by
      have h1:p ∈ backs ⟨#[]⟩ (rest.map (·.1)).reverse:=hpre.subset (by simp);have h2:p.2 ∈ (backs ⟨#[]⟩ (rest.map (·.1)).reverse).map (·.2):=List.mem_map.2 ⟨p,h1,rfl⟩;rw[backs_snd,List.reverse_reverse] at h2;obtain⟨y,hy,he⟩:=List.mem_map.1 h2;rw[<-he];exact HH.out.2.2.1 y (List.mem_cons_of_mem _ hy)
     have hv32:=val_size x.1 (HH.out.2.2.1 x (by simp)) pre;obtain⟨v,hv⟩:∃v,val x.1 pre=v:=⟨_,rfl⟩
     rw[hv] at hbW1 hv32;have HV:=Lib.hid hv;have hsz2:p.2.size+v.size<=140737488349000:=by omega
     have hGW:GL W:=by
      intro i hi';have h0:=HH.out.2.2.2 i hi';have hlt:=World.block_lt_of_cell? W0 _ h0;have hlw:=World.block_lt_of_cell? w _ (HG.out i hi');have hws:=hbel.size;have h1:=hgr.block 0 (by simpa using hlt) (fun e=>by injection e with e;simp only at hlw;omega);rw[World.cell?_of_block (a:=⟨0,i,none⟩) h1];exact h0
     have HN2:=Lib.hid (Node_walk p.2 v hsz2 W hGW);have co:W.cell? ⟨wr.heap.size,0,none⟩=some (.string v):=hbW1.cell rfl;clear hpre hgiv hv32 hp32 hv hGW;simp only[roundAct,pair];simp
     gi_wp2_with fail
     refine⟨trivial,?_⟩;refine CallsIn.mono (CallsIn.inRound l' ((callsIn_wide (n:=2)).2 HN2.out)) ?_
     rintro e W3 ⟨rfl,hb3⟩
     have hbW3:Blk W3 wr.heap.size 9 [.string v]:=hbW1.belowS hb3;have co3:W3.cell? ⟨wr.heap.size,0,none⟩=some (.string v):=hbW3.cell rfl;have cf3:=hbW3.free 0
     gi_wp2
     have hg3':W.grownBy (W3.setCell ⟨wr.heap.size,0,none⟩ (.string (dN p.2 v))) (some wr.heap.size):=grown_trans (below_grown (B:=0) hb3 _) (grown_setCells (b:=wr.heap.size) [_] 0 W3);refine⟨keeps_grown hg3' (by omega),?_,?_,grown_trans hgr hg3'⟩
     ·intro k' hk';exact hg3'.block k' (by have:=hgr.size;omega) (fun e=>by injection e;omega)
     ·rw[val_snoc,HV.out];exact hbW3.set 0 _
    case done=>
     rintro D W hD ⟨hbW1,hgr⟩ hK
     have co:W.cell? ⟨wr.heap.size,0,none⟩=some (.string (val x.1 (backs ⟨#[]⟩ (rest.map (·.1)).reverse))):=hbW1.cell rfl
     go_wp2
     refine⟨by simp,.inl ⟨_,_,rfl,run_takeDeferred hK,?_⟩⟩;have hgs:=hgr.size;have hws:=hbel.size;refine⟨_,results_tmp rfl _ _ _,?_,?_⟩
     ·rw[<-Tree.StackR.fold dE dL dN HST.out,fold_is]
      show Ending.returned (.string (val x.1 (backs ⟨#[]⟩ (rest.map (·.1)).reverse)))=_
      unfold val;rw[backs_snd,List.reverse_reverse]
     ·have b1:Below w.heap.size w W0:=hbel.trans (hbW.mono hws);have b2:Below w.heap.size w W:=grown_below hgr b1 hws (by omega);exact b2.trans (belowK_b (w:=w) (Nat.le_refl _) W D _ _ (by omega) hK rfl rfl)
end Go.Proofs.YtfdlmpicmkpabaaDoor.Ext
end
section
namespace Go.Proofs.YtfdlmpicmkpabaaDoor.Ext
set_option maxRecDepth 100000
open Go.RowKit Go.Shelf Go.Proofs.YtfdlmpicmkpabaaDoorW.PrintWords Go.Proofs.YtfdlmpicmkpabaaDoorW.PrintLast Go.Proofs.YtfdlmpicmkpabaaDoorW.PrintMore
attribute [local go_sem] Oper.semAt_some
def joinS(x:ByteArray × Bool)(part:ByteArray):ByteArray:=if x.2 then dN x.1 part else dN part x.1
set_option maxHeartbeats 1000000 in
theorem join_walk(r:ByteArray)(f:Bool)(part:ByteArray)(hsz:r.size+part.size<=140737488349000)(w:World)(hG:GL w):
  Calls Tryd.prog 89 #[.agg #[.string r,.bool f],.string part] w fun e w'=>e=.returned (.string (joinS (r,f) part))∧Below w.heap.size w w':=by
 have HG:=Lib.hid hG;clear hG
 cases f with
 |true=>
  go_enter Tryd.func89,Tryd.ntmps89
  go_wp2_with (first |(go_at_call 77;refine (Node_walk r part hsz _ (HG.out.below ((Below.refl _ _).alloc (Nat.le_refl _) _))).mono ?_;rintro e w2 ⟨rfl,hb2⟩) |fail)
  go_ret
  exact⟨rfl,Below.trans ((Below.refl _ _).alloc (Nat.le_refl _) _) (hb2.mono (by simp))⟩
 |false=>
  have hsz':part.size+r.size<=140737488349000:=by omega
  go_enter Tryd.func89,Tryd.ntmps89
  go_wp2_with (first |(go_at_call 77;refine (Node_walk part r hsz' _ (HG.out.below ((Below.refl _ _).alloc (Nat.le_refl _) _))).mono ?_;rintro e w2 ⟨rfl,hb2⟩) |fail)
  go_ret
  exact⟨rfl,Below.trans ((Below.refl _ _).alloc (Nat.le_refl _) _) (hb2.mono (by simp))⟩
abbrev pairS(p:Nat × (ByteArray × Bool)):Array Value:= #[.int .i64 (p.1:Int),.agg #[.string p.2.1,.bool p.2.2]]
theorem backS_walk(A:Option Addr)(n c:Nat)(w:World):
  Calls Tryd.prog 88 #[.slice A n c] w fun e w'=>e=.returned (.func (.func 103) #[] #[.pointer (some ⟨w.heap.size,0,none⟩)])∧w'=w.alloc (.cells #[.slice A n c] 129):=by
 go_enter Tryd.func88,Tryd.ntmps88
 go_wp2
 go_ret
 exact⟨rfl,rfl⟩
set_option maxRecDepth 100000 in
set_option maxHeartbeats 1000000 in
theorem backS1_gives(B g m c:Nat)(t:TypeId)(ys:List (ByteArray × Bool))(hm:ys.length=m)(hm2:m<1000000000)(C:List Value)(hC:∀(j:Nat) (x:ByteArray × Bool),ys[j]?=some x->C[j*2]?=some (Value.string x.1)∧C[j*2+1]?=some (Value.bool x.2))(w:World)(hB:Blk w B 129 [.slice (some ⟨g,0,none⟩) m c])(hg:Blk w g t C):
  GivesAllK Fence.wide 4 Tryd.prog 103 #[.pointer (some ⟨B,0,none⟩)] pairS (backs (⟨#[]⟩,false) ys) (fun k=>k=B∨k=g) w:=fun l J W hW hJ hY h0=>by
 have hBW:=hB.belowS hW;have hgW:=hg.belowS hW;have HM:=Lib.hid hm;have HC:=Lib.hid hC;clear hm hC hB hg;refine callsIn_of_wp Tryd.func103 rfl trivial ?_ rfl;simp only[Tryd.ntmps103,List.size_toArray,List.length_cons,List.length_nil,Nat.reduceAdd,Nat.reduceSub,Array.replicate_succ,Array.replicate_zero,List.push_toArray,List.append_toArray,List.nil_append,List.cons_append];have c00:W.cell? ⟨B,0,none⟩=some (.slice (some ⟨g,0,none⟩) m c):=hBW.cell rfl
 gi_wp2
 clear c00
 gi_loopw [3] (fun i wr=>∃j:Nat,j<=m∧i=.int .i64 ((m:Int) - 1 - (j:Int))∧J ((backs (⟨#[]⟩,false) ys).take j) wr∧Blk wr B 129 [.slice (some ⟨g,0,none⟩) m c]∧Blk wr g t C) (fun i wr=>(intOf i+1).toNat)
 case atStart=>exact⟨0,by omega,by simp,h0,hBW,hgW⟩
 case round=>
  clear hBW hgW;obtain⟨j,hj,rfl,hJj,hb0,hb1⟩:=hrel;have c0:wr.cell? ⟨B,0,none⟩=some (.slice (some ⟨g,0,none⟩) m c):=hb0.cell rfl
  by_cases hlt:j<m
  ·obtain⟨p,hp⟩:∃p,p=m - 1 - j:=⟨_,rfl⟩
   have ep:(m:Int) - 1 - (j:Int)=(p:Int):=by omega
   obtain⟨x,hx⟩:∃x,ys[p]?=some x:=⟨ys[p]'(by rw[HM.out];omega),List.getElem?_eq_getElem _⟩
   have cx:wr.cell? ⟨g,p*2,none⟩=some (.string x.1):=hb1.cell (HC.out p x hx).1;have cx2:wr.cell? ⟨g,p*2+1,none⟩=some (.bool x.2):=hb1.cell (HC.out p x hx).2;rw[ep];have p0:(0:Int)<=(p:Int):=by omega
   have d1:decide ((0:Int)<=(p:Int))=true:=decide_eq_true p0;have p1:(p:Int)<(m:Int):=by omega
   obtain⟨fn',tmps,assign,body,hy,hR⟩:=hY ((backs (⟨#[]⟩,false) ys).take j) (p,x) wr hJj (by
    have h1:=backs_step ((⟨#[]⟩,false):ByteArray × Bool) ys j (by rw[HM.out];exact hlt);rw[HM.out, <-hp,show ys.getD p (⟨#[]⟩,false)=x by simp[List.getD_eq_getElem?_getD,hx]] at h1;rw[<-h1];exact List.take_prefix _ _)
   dsimp only[pairS] at hy
   have HP:=Lib.hid (And.intro hp (And.intro ep hx));clear hp ep hx
   gi_wp2
   refine hR.mono ?_
   rintro e W3 ⟨rfl,hJ3,hk3⟩
   have hb0':Blk W3 B 129 [.slice (some ⟨g,0,none⟩) m c]:=hb0.move (hk3 B (Or.inl rfl));have hb1':Blk W3 g t C:=hb1.move (hk3 g (Or.inr rfl))
   gi_wp2
   go_roundw
   case rel=>
    refine⟨j+1,by omega,by have:=HP.out.2.1;rw[<-this];first |(congr 1;omega) |(congr 1),?_,hb0',hb1'⟩;have h1:=backs_step ((⟨#[]⟩,false):ByteArray × Bool) ys j (by rw[HM.out];exact hlt);rw[HM.out, <-HP.out.1,show ys.getD p (⟨#[]⟩,false)=x by simp[List.getD_eq_getElem?_getD,HP.out.2.2]] at h1;rw[h1];exact hJ3
   case measure=>simp[intOf]
  ·obtain rfl:j=m:=by omega
   have d1:decide ((0:Int)<=(j:Int) - 1 - (j:Int))=false:=decide_eq_false (by omega);have e1:(j:Int) - 1 - (j:Int)= -1:=by omega
   rw[e1]
   gi_wp2
   go_end0
   refine⟨⟨_,rfl⟩,?_⟩;rw[List.take_of_length_le (by rw[backs_len,HM.out];exact Nat.le_refl _)] at hJj;exact hJj
set_option maxHeartbeats 1000000 in
theorem take_walk(A:Option Addr)(n c:Nat)(w:World)(x:ByteArray)(h:0<n->∃ad,A=some ad∧w.cell? (ad.add (n - 1))=some (.string x))(hc:n<=c)(hn:n<=1000000):
  Calls Tryd.prog 87 #[.slice A n c] w fun e w'=>(e=if n=0 then .returned (.tuple #[.string ⟨#[]⟩,.slice none 0 0,.bool false]) else .returned (.tuple #[.string x,.slice A (n - 1) c,.bool true]))∧∃m,w'=w.drewN m:=by
 by_cases h0:n=0
 ·subst h0
  go_enter Tryd.func87,Tryd.ntmps87
  go_wp2
  go_ret3
  exact⟨rfl,0,rfl⟩
 ·obtain⟨ad,hA,hx⟩:=h (by omega);subst hA;obtain⟨m,hm⟩:∃m,m=n - 1:=⟨_,rfl⟩
  rw[<-hm] at hx ⊢;have g1:(n:Int) - 1=(m:Int):=by omega
  have b1:(m:Int)<(n:Int):=by omega
  have b2:(0:Int)<=(m:Int):=by omega
  have b3:(m:Int)<=(c:Int):=by omega
  have H0:=Lib.hid h0;have d0:((n:Int)==0)=false:=by simp;omega
  rw[if_neg h0];clear hm h0 h
  go_enter Tryd.func87,Tryd.ntmps87
  go_wp2
  go_quiet (fail)
  go_wp2
  go_ret3
  exact⟨rfl,_,rfl⟩
end Go.Proofs.YtfdlmpicmkpabaaDoor.Ext
end
section
namespace Go.Proofs.YtfdlmpicmkpabaaDoor.Ext
set_option maxRecDepth 100000
open Go.RowKit Go.Shelf Go.Proofs.YtfdlmpicmkpabaaDoorW.PrintWords Go.Proofs.YtfdlmpicmkpabaaDoorW.PrintLast Go.Proofs.YtfdlmpicmkpabaaDoorW.PrintMore
def dig32(s:ByteArray):Bool:=s.size==32
theorem isDigest_walk(s:ByteArray)(hs:s.size<=9223372036854775807)(w:World):
  Calls Tryd.prog 90 #[.string s] w fun e w'=>e=.returned (.bool ((s.size:Int)==32))∧w'=w:=by
 go_enter Tryd.func90,Tryd.ntmps90
 go_wp2
 go_ret
 exact⟨rfl,rfl⟩
theorem all1_walk(s:ByteArray)(hs:s.size<=9223372036854775807)(w:World):
  Calls Tryd.prog 101 #[.string s] w fun e w'=>e=.returned (.bool (!((s.size:Int)==32)))∧w'=w:=by
 go_enter Tryd.func101,Tryd.ntmps101
 go_wp2_with (first |(go_at_call 90;refine (isDigest_walk s hs _).mono ?_;rintro e w' ⟨rfl,rfl⟩) |fail)
 go_ret
 exact⟨rfl,rfl⟩
def OddAt(l:List ByteArray)(w:World)(e:Ending)(w':World):Prop:=∃r:Int,e=.returned (.int .i64 r)∧((0<=r)↔¬(∀x ∈ l,x.size=32))∧r<1000000000∧ -1<=r∧w'=w
set_option maxRecDepth 100000 in
set_option maxHeartbeats 1000000 in
theorem index_walk(A:Option Addr)(c:Nat)(l:List ByteArray)(w:World)(hr:Kd.C Kd.string w A l.length l)(hc:l.length<=c)(hn:l.length<=1000000)(hs:∀x ∈ l,x.size<=9223372036854775807):
  Calls Tryd.prog 112 #[.slice A l.length c,.func (.func 101) #[] #[]] w (OddAt l w):=by
 obtain⟨n,hnl⟩:∃n,l.length=n:=⟨_,rfl⟩
 rw[hnl] at hr hc hn ⊢;have HR:=Lib.hid hr;have HN:=Lib.hid hnl;have HS:=Lib.hid hs;clear hr hnl hs
 go_enter Tryd.func112,Tryd.ntmps112
 go_wp2
 go_loop [8] (fun i=>∃k:Nat,k<=n∧i=.int .i64 (k:Int)∧Hid (∀x ∈ l.take k,x.size=32)) (fun i=>n - (intOf i).toNat)
 case atStart=>exact⟨0,by omega,rfl,Lib.hid (by simp)⟩
 case round=>
  obtain⟨k,hk,rfl,hall⟩:=hrel
  by_cases hlt:k<n
  ·obtain⟨x,hx⟩:∃x,l[k]?=some x:=⟨l[k]'(by rw[HN.out];exact hlt),List.getElem?_eq_getElem _⟩
   obtain⟨ad,hA,hcc⟩:=HR.out.2.2 (by omega);subst hA;have hcell:w.cell? (ad.add k)=some (.string x):=strs_cell HR.out hx;have hxs:x.size<=9223372036854775807:=HS.out x (List.mem_of_getElem? hx);have HX:=Lib.hid hx;clear hx hcc;have d1:decide ((k:Int)<(n:Int))=true:=decide_eq_true (by omega)
   by_cases h32:x.size=32
   ·have e1:((x.size:Int)==32)=true:=by simp;omega
    go_wp2_with (first |(go_at_call 101;refine (all1_walk x hxs _).mono ?_;rintro e w' ⟨rfl,rfl⟩) |fail)
    go_round
    case rel=>
     refine⟨k+1,by omega,by go_num,Lib.hid ?_⟩;intro y hy;rw[List.take_add_one,HX.out] at hy;rcases List.mem_append.1 hy with h |h
     ·exact hall.out y h
     ·simp at h;rw[h];exact h32
    case measure=>simp[intOf];omega
   ·have e1:((x.size:Int)==32)=false:=by simp;omega
    have H32:=Lib.hid h32;clear h32
    go_wp2_with (first |(go_at_call 101;refine (all1_walk x hxs _).mono ?_;rintro e w' ⟨rfl,rfl⟩) |fail)
    go_ret
    exact⟨k,rfl,⟨fun _ h=>H32.out (h x (List.mem_of_getElem? HX.out)),fun _=>by omega⟩,by omega,by omega,rfl⟩
  ·obtain rfl:k=n:=by omega
   go_wp2
   go_ret
   have htk:l.take k=l:=by rw[List.take_of_length_le (by rw[HN.out];exact Nat.le_refl _)]
   have:=hall.out;rw[htk] at this;exact⟨-1,rfl,⟨fun h=>by omega,fun h=>absurd this h⟩,by omega,by omega,rfl⟩
theorem contains_walk(A:Option Addr)(c:Nat)(l:List ByteArray)(w:World)(hr:Kd.C Kd.string w A l.length l)(hc:l.length<=c)(hn:l.length<=1000000)(hs:∀x ∈ l,x.size<=9223372036854775807):
  Calls Tryd.prog 102 #[.slice A l.length c,.func (.func 101) #[] #[]] w fun e w'=>e=.returned (.bool (!l.all dig32))∧w'=w:=by
 have hw:=index_walk A c l w hr hc hn hs;have HW:=Lib.hid hw;clear hw hr
 go_enter Tryd.func102,Tryd.ntmps102
 go_wp2_with (first |(go_at_call 112;refine (HW.out).mono ?_;rintro e w' ⟨r,rfl,hr',h1,h2,rfl⟩;have HRR:=Lib.hid hr';clear hr') |fail)
 go_ret
 refine⟨?_,rfl⟩;have hr:=HRR.out;have:decide (0<=r)= !l.all dig32:=by
  by_cases h:0<=r
  ·rw[decide_eq_true h];have:=hr.1 h
   symm
   rw[Bool.not_eq_true',Bool.eq_false_iff];intro h';exact this (fun x hx=>by have:=List.all_eq_true.1 h' x hx;simpa [dig32] using this)
  ·rw[decide_eq_false h];have h':∀x ∈ l,x.size=32:=by
    rcases Classical.em (∀x ∈ l,x.size=32) with h' |h'
    ·exact h'
    ·exact absurd (hr.2 h') h
   symm
   rw[Bool.not_eq_false'];exact List.all_eq_true.2 (fun x hx=>by simp[dig32,h' x hx])
 rw[<-this];rfl
theorem all_walk(A:Option Addr)(c:Nat)(l:List ByteArray)(w:World)(hr:Kd.C Kd.string w A l.length l)(hc:l.length<=c)(hn:l.length<=1000000)(hs:∀x ∈ l,x.size<=9223372036854775807):
  Calls Tryd.prog 86 #[.slice A l.length c] w fun e w'=>e=.returned (.bool (l.all dig32))∧w'=w:=by
 have hw:=contains_walk A c l w hr hc hn hs;have HW:=Lib.hid hw;clear hw hr
 go_enter Tryd.func86,Tryd.ntmps86
 go_wp2_with (first |(go_at_call 102;refine (HW.out).mono ?_;rintro e w' ⟨rfl,rfl⟩) |fail)
 go_ret
 exact⟨by simp,rfl⟩
end Go.Proofs.YtfdlmpicmkpabaaDoor.Ext
end
section
namespace Go.Proofs.YtfdlmpicmkpabaaDoor.Ext
set_option maxRecDepth 100000
open Go.RowKit Go.Shelf Go.Proofs.YtfdlmpicmkpabaaDoorW.PrintWords Go.Proofs.YtfdlmpicmkpabaaDoorW.PrintLast Go.Proofs.YtfdlmpicmkpabaaDoorW.PrintMore
attribute [local go_sem] Oper.semAt_some
attribute [local go_sem ↓] Go.wp_at_zero Go.wp_at_succ
def sideCells(W:List (ByteArray × Bool)):List Value:=W.flatMap fun x=>[.string x.1,.bool x.2]
theorem sideCells_snoc(W:List (ByteArray × Bool))(x:ByteArray × Bool):sideCells (W++[x])=sideCells W++[.string x.1,.bool x.2]:=by simp[sideCells]
theorem sideCells_get(W:List (ByteArray × Bool)):∀(j:Nat) (x:ByteArray × Bool),W[j]?=some x->(sideCells W)[j*2]?=some (.string x.1)∧(sideCells W)[j*2+1]?=some (.bool x.2):=by
 induction W with
 |nil=>intro j x h;simp at h
 |cons y W ih=>
  intro j x h
  match j,h with
  |0,h=>simp at h;subst h;exact⟨rfl,rfl⟩
  |j+1,h=>
   simp at h;have:=ih j x h;rw[show (j+1)*2=j*2+1+1 by omega]
   simpa [sideCells] using this
theorem news_new(W:World)(c:Array Value)(t:TypeId)(n:Nat)(l:List Value)(hc:c=l.toArray)(hn:W.heap.size=n):∀(j:Nat) (u:Value),l[j]?=some u->(W.alloc (.cells c t)).cell? ((⟨n,0,none⟩:Addr).add j)=some u:=by
 intro j u hj;subst hc;rw[Addr.add_mid,Nat.zero_add];exact c_new _ _ _ _ _ _ (by simpa using hj) hn
theorem own_dN{w:World}{N e size n:Nat}{v:Value}{xs:List Value}(h:w.ownsRow N e size v n xs)(m:Nat):(w.drewN m).ownsRow N e size v n xs:=h
theorem GivesAllK.mono{α:Type}{F:Fence}{n:Nat}{P:Program}{g:Nat}{lb:Array Value}{encs:α->Array Value}{xs:List α}{KS KS':Nat->Prop}{w:World}(h:GivesAllK F n P g lb encs xs KS w)(hk:∀k,KS k->KS' k):GivesAllK F n P g lb encs xs KS' w:=
 fun l J W hb hJ hY h0=>h l J W hb hJ (fun pre x W1 h1 h2=>by
  obtain⟨fn,tmps,assign,body,hy,hR⟩:=hY pre x W1 h1 h2;exact⟨fn,tmps,assign,body,hy,hR.mono (fun e W' ⟨a,b,c⟩=>⟨a,b,fun k hk'=>c k (hk k hk')⟩)⟩) h0
set_option maxHeartbeats 1000000 in
theorem backS0_gives(B c:Nat)(A:Option Addr)(w:World)(hB:Blk w B 129 [.slice A 0 c]):
  GivesAllK Fence.wide 4 Tryd.prog 103 #[.pointer (some ⟨B,0,none⟩)] pairS [] (fun k=>k=B) w:=fun l J W hW hJ hY h0=>by
 have hBW:=hB.belowS hW;refine callsIn_of_wp Tryd.func103 rfl trivial ?_ rfl;simp only[Tryd.ntmps103,List.size_toArray,List.length_cons,List.length_nil,Nat.reduceAdd,Nat.reduceSub,Array.replicate_succ,Array.replicate_zero,List.push_toArray,List.append_toArray,List.nil_append,List.cons_append];have c00:W.cell? ⟨B,0,none⟩=some (.slice A 0 c):=hBW.cell rfl
 gi_wp2
 gi_loopw [3] (fun i wr=>i=.int .i64 (-1)∧J [] wr) (fun i wr=>0)
 case atStart=>exact⟨rfl,h0⟩
 case round=>
  obtain⟨rfl,hJj⟩:=hrel
  gi_wp2
  go_end0
  exact⟨⟨_,rfl⟩,hJj⟩
def valS(o:ByteArray)(pre:List (Nat × (ByteArray × Bool))):ByteArray:=(pre.map (·.2)).foldl (fun o x=>joinS x o) o
theorem valS_snoc(o:ByteArray)(pre:List (Nat × (ByteArray × Bool)))(p:Nat × (ByteArray × Bool)):valS o (pre++[p])=joinS p.2 (valS o pre):=by simp[valS]
theorem joinS_size(x:ByteArray × Bool)(o:ByteArray):(joinS x o).size=32:=by unfold joinS;split<;>exact hash_size _
theorem valS_size(o:ByteArray)(ho:o.size=32)(pre:List (Nat × (ByteArray × Bool))):(valS o pre).size=32:=by
 rcases List.eq_nil_or_concat pre with rfl |⟨l,p,rfl⟩
 ·exact ho
 ·rw[List.concat_eq_append,valS_snoc];exact joinS_size _ _
theorem valS_all(o:ByteArray)(W:List (ByteArray × Bool))(d:ByteArray × Bool):valS o (backs d W)=W.foldr joinS o:=by
 unfold valS;rw[backs_snd,List.foldl_reverse]
theorem side_gives{w:World}{N n:Nat}{v:Value}{W:List (ByteArray × Bool)}(hn:W.length=n)(hn2:n<1000000000)(h:w.ownsRow N 133 2 v n (sideCells W))(W0:World)(B O:Nat)(hB:Blk W0 B 129 [v])(hBO:B≠O)(hO:w.heap.size<=O)(hb:Below w.heap.size w W0):
  GivesAllK Fence.wide 4 Tryd.prog 103 #[.pointer (some ⟨B,0,none⟩)] pairS (backs (⟨#[]⟩,false) W) (fun k=>k<W0.heap.size∧k≠O) W0:=by
 have hBlt:=hB.lt;rcases h.2 with ⟨rfl,h0⟩ |⟨g,cap,cur,rfl,hg,hh,hnc,_,_,ht⟩
 ·have hW:W=[]:=List.eq_nil_of_length_eq_zero (by rw[hn];exact h0);subst hW;exact (backS0_gives B 0 none W0 hB).mono (fun k hk=>by subst hk;exact⟨hBlt,hBO⟩)
 ·have hC:Blk W0 g 133 cur.toList:=by
   have h1:Blk w g 133 cur.toList:=by simpa [Blk] using hh
   exact h1.belowS hb
  have hgw:g<w.heap.size:=(Array.getElem?_eq_some_iff.1 hh).1;refine (backS1_gives B g n cap 133 W hn hn2 cur.toList ?_ W0 hB hC).mono (fun k hk=>?_)
  ·intro j x hj;have hjn:j<n:=by rw[<-hn];exact (List.getElem?_eq_some_iff.1 hj).1
   have:=sideCells_get W j x hj;rw[<-ht,List.getElem?_take,List.getElem?_take,if_pos (by omega),if_pos (by omega)] at this;exact this
  ·rcases hk with rfl |rfl
   ·exact⟨hBlt,hBO⟩
   ·exact⟨hC.lt,by omega⟩
theorem str_eq(a b:ByteArray):(a.toList==b.toList)=decide (a=b):=by
 rw[ByteArray.toList_eq,ByteArray.toList_eq]
 by_cases h:a=b
 ·subst h;simp
 ·rw[decide_eq_false h,beq_eq_false_iff_ne];exact fun e=>h (ba_ext e)
theorem infoQ58:(Tryd.prog.info? 133).map (fun i=>(i.zero,i.size,i.bytes))=some (some (.agg #[.string ⟨#[]⟩,.bool false]),2,24):=by kernel_rfl
def verifyB(root:ByteArray)(n i:Int)(s:ByteArray)(l:List ByteArray):Bool:=decide (0<=i∧i<n)&&(l.all dig32&&decide (Tree.value dL dN n.toNat i.toNat s l.reverse=some root))
set_option maxRecDepth 100000 in
set_option maxHeartbeats 1000000 in
theorem Verify_walk(root:ByteArray)(n i:Int)(s:ByteArray)(A:Option Addr)(c:Nat)(l:List ByteArray)(w:World)(hG:GL w)(hr:Kd.C Kd.string w A l.length l)(hc:l.length<=c)(hln:l.length<=1000000)(hls:∀x ∈ l,x.size<=9223372036854775807)
  (hn0: -9223372036854775808<=n) (hn1:n<=9223372036854775807) (hi0: -9223372036854775808<=i) (hi1:i<=9223372036854775807) (hs:s.size<=140737488349000):
  Calls Tryd.prog 68 #[.string root,.int .i64 n,.int .i64 i,.string s,.slice A l.length c] w fun e w'=>e=.returned (.bool (verifyB root n i s l))∧Below w.heap.size w w':=by
 have hall:=fun W hW=>all_walk A c l W hW hc hln hls
 have HALL:=Lib.hid hall;have HR:=Lib.hid hr;have HG:=Lib.hid hG;have HS:=Lib.hid hls;clear hall hr hG hls
 by_cases hin:0<=i∧i<n
 ·have d1:decide (i<0)=false:=decide_eq_false (by omega);have d2:decide (n<=i)=false:=decide_eq_false (by omega)
  by_cases h32:l.all dig32=true
  ·obtain⟨N0,rfl⟩:=Int.eq_ofNat_of_zero_le (show 0<=n by omega);obtain⟨I0,rfl⟩:=Int.eq_ofNat_of_zero_le hin.1;have hv:verifyB root (N0:Int) (I0:Int) s l=decide (Tree.value dL dN N0 I0 s l.reverse=some root):=by unfold verifyB;simp[hin,h32]
   have HV:=Lib.hid (And.intro hv h32);clear hv;have hIN:I0<N0:=by omega
   have d2':decide (N0<=I0)=false:=decide_eq_false (by omega);have hds:∀x ∈ l,x.size=32:=fun x hx=>by have:=List.all_eq_true.1 h32 x hx;simpa [dig32] using this
   have HDS:=Lib.hid hds;clear hds h32 hin;obtain⟨L,hL⟩:∃L,l.length=L:=⟨_,rfl⟩
   have hlr:=HR.out;rw[hL] at hlr hc hln ⊢;have HLR:=Lib.hid (And.intro hL hlr);clear hL hlr;obtain⟨i0,hi,hz0,hz1,hz2⟩:=info_parts infoQ58;refine calls_of_wp_marks Tryd.func68 rfl ?_;simp only[Tryd.ntmps68,List.size_toArray,List.length_cons,List.length_nil,Nat.reduceAdd,Nat.reduceSub,Array.replicate_succ,Array.replicate_zero,List.push_toArray,List.append_toArray,List.nil_append,List.cons_append]
   go_wp2_with (first |(go_at_call 86;have hq:=HALL.out _ HR.out;rw[HLR.out.1,HV.out.2] at hq;refine hq.mono ?_;rintro e w' ⟨rfl,hw'⟩;obtain rfl:=hw'.symm) |fail)
   go_loopw [1,2,4,11] (fun vn vi vp vw wr=>∃(n' i' m:Nat) (W:List (ByteArray × Bool)),vn=.int .i64 (n':Int)∧vi=.int .i64 (i':Int)∧vp=.slice A m c∧m<=L∧i'<n'∧n'<=N0∧W.length+m=L∧Hid (wr.ownsRow w.heap.size 133 2 vw W.length (sideCells W))∧Hid (∀x ∈ W,x.1.size=32)∧Hid (Tree.value dL dN N0 I0 s l.reverse=(Tree.value dL dN n' i' s (l.take m).reverse).map (fun v=>W.foldr joinS v))∧Below w.heap.size w wr) (fun vn vi vp vw wr=>lenOf vp)
   case atStart=>exact⟨N0,I0,L,[],rfl,rfl,rfl,Nat.le_refl _,hIN,Nat.le_refl _,by simp,Lib.hid (World.ownsRow_nil _ _ _ _),Lib.hid (by simp),Lib.hid (by rw[List.take_of_length_le (by rw[HLR.out.1];exact Nat.le_refl _)];simp),Below.refl _ _⟩
   case round=>
    obtain⟨n',i',m,W,rfl,rfl,rfl,hmL,hin',hnN,hWm,hown,hw32,hval,hbel⟩:=hrel
    by_cases hn':n'=1
    ·subst hn';have hi0:i'=0:=by omega
     subst hi0;have d3:decide ((1:Int)<((1:Nat):Int))=false:=by decide
     have hv1:=hval.out;rw[Tree.value_one] at hv1;have HV1:=Lib.hid hv1;clear hv1;obtain⟨q,hq⟩:∃q,W.length=q:=⟨_,rfl⟩
     have ho:=hown.out;rw[hq] at ho hWm;have HO:=Lib.hid ho;have HQ:=Lib.hid hq;clear ho hq;have hGr:=HG.out.below hbel;have HGR:=Lib.hid hGr;have hNr:=hbel.size;clear hGr;obtain⟨A',c',hvw⟩:∃A' c',u11=.slice A' q c':=by
      rcases HO.out.2 with ⟨h,h0⟩ |⟨g,cap,cur,h,_⟩
      ·exact⟨none,0,by rw[h,h0]⟩
      ·exact⟨_,_,h⟩
     subst hvw;rw[show ((1:Nat):Int)=1 from rfl]
     go_wp2_with (first |(go_at_call 78;refine (Leaf_walk s hs _ HGR.out).mono ?_;rintro e w1 ⟨rfl,hb1⟩) |(go_at_call 88;refine (backS_walk _ _ _ _).mono ?_;rintro e w9 ⟨rfl,rfl⟩) |fail)
     have hws1:=hb1.size;have hown1:w1.ownsRow w.heap.size 133 2 (.slice A' q c') q (sideCells W):=HO.out.kept (below_grown (B:=0) hb1 none) (by rcases hh:(Value.slice A' q c').ownBlock with _ |k;exact .inl rfl;exact .inr (by simp));have hB0:Blk ((w1.alloc (.cells #[.string (dL s)] 9)).alloc (.cells #[.slice A' q c'] 129)) (w1.heap.size+1) 129 [.slice A' q c']:=cast_blk (Blk.newA _ _ _ _ rfl) (by simp);have hO0:Blk ((w1.alloc (.cells #[.string (dL s)] 9)).alloc (.cells #[.slice A' q c'] 129)) w1.heap.size 9 [.string (dL s)]:=(Blk.newA _ _ _ _ rfl).alloc _;have hsz0:((w1.alloc (.cells #[.string (dL s)] 9)).alloc (.cells #[.slice A' q c'] 129)).heap.size=w1.heap.size+2:=by simp
     have hbW:Below w1.heap.size w1 ((w1.alloc (.cells #[.string (dL s)] 9)).alloc (.cells #[.slice A' q c'] 129)):=((Below.refl _ _).alloc (Nat.le_refl _) _).alloc (by simp) _;have hgiv:=side_gives HQ.out (by omega) hown1 _ (w1.heap.size+1) w1.heap.size hB0 (by omega) (Nat.le_refl _) hbW;have hbWw:Below w.heap.size w ((w1.alloc (.cells #[.string (dL s)] 9)).alloc (.cells #[.slice A' q c'] 129)):=(hbel.trans (hb1.mono hNr)).trans (hbW.mono (by omega));have hGW0:=HG.out.below hbWw;have HGW:=Lib.hid (And.intro hGW0 hbWw);clear hGW0 hbWw hown1 hbW hB0;generalize ((w1.alloc (.cells #[.string (dL s)] 9)).alloc (.cells #[.slice A' q c'] 129))=W0 at*
     refine wp_rangeFunc_box (d:=18) (T:=133) (gf:=103) (lb:= #[.pointer (some ⟨w1.heap.size+1,0,none⟩)]) rfl (enters_of Tryd.func103 (by kernel_rfl) rfl) (KS:=fun k=>k<W0.heap.size∧k≠w1.heap.size) (fun k hk=>hk.1) hgiv (Below.refl _ _) (fun _=>rfl)
      (fun p=>[.string p.2.1,.bool p.2.2]) ?assign (fun pre V=>Blk V w1.heap.size 9 [.string (valS (dL s) pre)]∧W0.grownBy V (some w1.heap.size)) (OwnFrom.and (own_blk _ (by omega)) (own_grown _ (Nat.le_refl _))) ⟨hO0,⟨rfl,rfl,rfl,Nat.le_refl _,fun _ _ _=>rfl⟩⟩ ?body ?done
     case assign=>
      intro l' p V K hK;have hK':=Lib.hid hK;clear hK hgiv;simp only[pairS]
      gi_wp2
      have h:=hK'.out;simp[boxAct,pairS] at h;exact h
     case body=>
      intro l' pre p B V hI hBlk hBs hpre;obtain⟨hbV,hgr⟩:=hI;have hpW:p.2 ∈ W:=by
       have h1:p ∈ backs (⟨#[]⟩,false) W:=hpre.subset (by simp);have h2:p.2 ∈ (backs (⟨#[]⟩,false) W).map (·.2):=List.mem_map.2 ⟨p,h1,rfl⟩;rw[backs_snd,List.mem_reverse] at h2;exact h2
      have hp32:=hw32.out p.2 hpW;have hv32:=valS_size (dL s) (hash_size _) pre;obtain⟨v,hv⟩:∃v,valS (dL s) pre=v:=⟨_,rfl⟩
      rw[hv] at hbV hv32;have HVV:=Lib.hid hv;have hsz2:p.2.1.size+v.size<=140737488349000:=by omega
      have hGV:GL V:=by
       intro i hi';have h0:=HGW.out.1 i hi';have hlt:=World.block_lt_of_cell? W0 _ h0;have hlw:=World.block_lt_of_cell? w _ (HG.out i hi');have h1:=hgr.block 0 (by simpa using hlt) (fun e=>by injection e with e;simp only at hlw;omega);rw[World.cell?_of_block (a:=⟨0,i,none⟩) h1];exact h0
      have HJ:=Lib.hid (join_walk p.2.1 p.2.2 v hsz2 V hGV);have co:V.cell? ⟨w1.heap.size,0,none⟩=some (.string v):=hbV.cell rfl;have cb0:V.cell? ⟨B,0,none⟩=some (.string p.2.1):=hBlk.cell rfl;have cb1:V.cell? ⟨B,1,none⟩=some (.bool p.2.2):=hBlk.cell rfl;clear hpre hgiv hv32 hp32 hv hGV hpW;simp only[boxAct,pairS];simp
      gi_wp2_with fail
      refine⟨trivial,?_⟩;refine CallsIn.mono (CallsIn.inRound l' ((callsIn_wide (n:=2)).2 HJ.out)) ?_
      rintro e W3 ⟨rfl,hb3⟩
      have hbW3:Blk W3 w1.heap.size 9 [.string v]:=hbV.belowS hb3;have co3:W3.cell? ⟨w1.heap.size,0,none⟩=some (.string v):=hbW3.cell rfl;have cf3:=hbW3.free 0
      gi_wp2
      have hg3':V.grownBy (W3.setCell ⟨w1.heap.size,0,none⟩ (.string (joinS (p.2.1,p.2.2) v))) (some w1.heap.size):=grown_trans (below_grown (B:=0) hb3 _) (grown_setCells (b:=w1.heap.size) [_] 0 W3);refine⟨keeps_grown hg3' (by omega),?_,?_,grown_trans hgr hg3'⟩
      ·intro k' hk';exact hg3'.block k' (by have:=hgr.size;omega) (fun e=>by injection e with e;exact hk'.2 e)
      ·rw[valS_snoc,HVV.out];exact hbW3.set 0 _
     case done=>
      rintro D V hD ⟨hbV,hgr⟩ hK
      rw[valS_all] at hbV;obtain⟨v,hv⟩:∃v,W.foldr joinS (dL s)=v:=⟨_,rfl⟩
      rw[hv] at hbV;have co:V.cell? ⟨w1.heap.size,0,none⟩=some (.string v):=hbV.cell rfl;have HVV:=Lib.hid hv;clear hv hgiv
      by_cases hm0:m=0
      ·have dm:((m:Int)==0)=true:=by simp[hm0]
       have HM0:=Lib.hid hm0;clear hm0
       go_wp2
       refine⟨by simp,.inl ⟨_,_,rfl,run_takeDeferred hK,?_⟩⟩;have hgs:=hgr.size;have hws2:=HGW.out.2.size;refine⟨_,results_tmp rfl _ _ _,?_,?_⟩
       ·rw[HV.out.1,HV1.out];have hnil:(l.take m).reverse=[]:=by rw[HM0.out];rfl
        rw[if_pos hnil]
        show Ending.returned (.bool (v.toList==root.toList))=_
        rw[str_eq, <-HVV.out];simp
       ·have b2:Below w.heap.size w V:=grown_below hgr HGW.out.2 (by omega) (by omega);exact b2.trans (belowK_b (w:=w) (Nat.le_refl _) V D _ _ (by omega) hK rfl rfl)
      ·have dm:((m:Int)==0)=false:=by simp;omega
       have HM0:=Lib.hid hm0;clear hm0
       go_wp2
       refine⟨by simp,.inl ⟨_,_,rfl,run_takeDeferred hK,?_⟩⟩;have hgs:=hgr.size;have hws2:=HGW.out.2.size;refine⟨_,results_tmp rfl _ _ _,?_,?_⟩
       ·rw[HV.out.1,HV1.out];have hnil:¬(l.take m).reverse=[]:=by
         intro h;have:=congrArg List.length h;rw[List.length_reverse,List.length_take,HLR.out.1] at this;have:=HM0.out;simp at*
         omega
        rw[if_neg hnil];rfl
       ·have b2:Below w.heap.size w V:=grown_below hgr HGW.out.2 (by omega) (by omega);exact b2.trans (belowK_b (w:=w) (Nat.le_refl _) V D _ _ (by omega) hK rfl rfl)
    ·have d3:decide ((1:Int)<(n':Int))=true:=decide_eq_true (by omega)
     by_cases hm0:m=0
     ·subst hm0;have htk:=take_walk A 0 c wr ⟨#[]⟩ (fun h=>absurd h (by omega)) (by omega) (by omega);rw[if_pos rfl] at htk;have HT:=Lib.hid htk;clear htk;have hres:decide (Tree.value dL dN N0 I0 s l.reverse=some root)=false:=by
       rw[hval.out,List.take_zero,List.reverse_nil,Tree.value_nil dL dN hn'];simp
      have HRES:=Lib.hid hres;clear hres
      go_wp2_with (first |(go_at_call 87;refine (HT.out).mono ?_;rintro e w2 ⟨rfl,m2,rfl⟩) |fail)
      refine⟨_,results_tmp rfl _ _ _,?_,below_dN hbel m2⟩;rw[HV.out.1,HRES.out];rfl
     ·obtain⟨x,hx⟩:∃x,l[m - 1]?=some x:=⟨l[m - 1]'(by rw[HLR.out.1];omega),List.getElem?_eq_getElem _⟩
      obtain⟨ad,hA,_⟩:=HLR.out.2.2.2 (by omega);subst hA;have hcell:wr.cell? (ad.add (m - 1))=some (.string x):=by
       have h0:=strs_cell HLR.out.2 hx;rw[hbel.cell (World.block_lt_of_cell? w _ h0)];exact h0
      have htk:=take_walk (some ad) m c wr x (fun _=>⟨ad,rfl,hcell⟩) (by omega) (by omega);rw[if_neg hm0] at htk;have HT:=Lib.hid htk;obtain⟨m1,hm1⟩:∃m1,m=m1+1:=⟨m - 1,by omega⟩
      subst hm1;rw[Nat.add_sub_cancel] at hx;have HX:=Lib.hid hx;clear htk hcell hx hm0;obtain⟨k,hk⟩:∃k,Tree.left n'=k:=⟨_,rfl⟩
      have hkn:0<k∧k<n':=by rw[<-hk];exact⟨Tree.left_pos _,Tree.left_lt (by omega)⟩
      have HK:=Lib.hid hk;clear hk;have hstep:∀(b:Bool) (n2 i2:Nat),(if b then k<=i'∧n2=n' - k∧i2=i' - k else i'<k∧n2=k∧i2=i')->Tree.value dL dN N0 I0 s l.reverse=(Tree.value dL dN n2 i2 s (l.take m1).reverse).map (fun v=>(W++[(x,b)]).foldr joinS v):=by
       intro b n2 i2 hb;rw[hval.out];have hrev:(l.take (m1+1)).reverse=x::(l.take m1).reverse:=by rw[List.take_add_one,HX.out];simp
       rw[hrev]
       cases b with
       |true=>
        simp only[if_true] at hb;obtain⟨h1,rfl,rfl⟩:=hb;rw[<-HK.out,Tree.value_high dL dN hn' (by rw[HK.out];exact h1),Option.map_map];congr 1
        funext v
        simp[joinS]
       |false=>
        simp only[Bool.false_eq_true,if_false] at hb;obtain⟨h1,rfl,rfl⟩:=hb;rw[<-HK.out,Tree.value_low dL dN hn' (by rw[HK.out];exact h1),Option.map_map];congr 1
        funext v
        simp[joinS]
      have HST:=Lib.hid hstep;clear hstep;have hkn1:=hkn.1;have hkn2:=hkn.2;clear hkn;have hNr:=hbel.size;have hlf:=fun W0=>left_walk n' (by omega) (by omega) W0
      have HLF:=Lib.hid hlf;clear hlf;obtain⟨q,hq⟩:∃q,W.length=q:=⟨_,rfl⟩
      have ho:=hown.out;rw[hq] at ho hWm;have HO:=Lib.hid ho;have HQ:=Lib.hid hq;clear ho hq
      by_cases hik:k<=i'
      ·have d4:decide ((k:Int)<=(i':Int))=true:=decide_eq_true (by omega)
       go_wp2_with (first |(go_at_call 87;refine (HT.out).mono ?_;rintro e w2 ⟨rfl,m2,rfl⟩;have HO2:=Lib.hid (own_dN HO.out m2)) |(go_at_call 84;refine (HLF.out _).mono ?_;rintro e w2 ⟨he,hw2⟩;obtain rfl:=hw2.symm;rw[HK.out] at he;subst he) |(at_builtin;refine wpList_append_own _ (by rfl) (.tmp 44) (.tmp 50) 129 (by rfl) w.heap.size 133 i0 _ 2 24 Tryd.underlying129 hi hz0 hz1 hz2 (by rfl) (by decide) u11 q (sideCells W) (by rfl) (HO2.out.alloc _) ⟨wr.heap.size,0,none⟩ 1 1 [.string x,.bool true] (by rfl) rfl (news_new _ _ _ _ _ rfl rfl) (by simp[Value.oneCell']) (by unfold maxLen;omega) (by omega) (by simp;omega) ?_;intro v3' w3 hown3 hg3 hnil3) |fail)
       go_roundw
       case rel=>
        have hlen:(W++[(x,true)]).length=q+1:=by rw[List.length_append,HQ.out,List.length_singleton]
        refine⟨n' - k,i' - k,m1,W++[(x,true)],by congr 1;omega,by congr 1;omega,by simp,by omega,by omega,by omega,by rw[hlen];omega,Lib.hid ?_,Lib.hid ?_,Lib.hid (HST.out true _ _ (by rw[if_pos rfl];exact⟨hik,rfl,rfl⟩)),?_⟩
        ·rw[hlen,sideCells_snoc];exact hown3
        ·intro y hy;rcases List.mem_append.1 hy with h |h
         ·exact hw32.out y h
         ·rw[List.mem_singleton] at h;rw[h];exact HDS.out x (List.mem_of_getElem? HX.out)
        ·exact Below.grown ((below_dN hbel m2).alloc (by simpa using hNr) _) hg3 (by simp;omega) (fun k hk=>(HO2.out.lt k hk).1)
       case measure=>simp[lenOf]
      ·have d4:decide ((k:Int)<=(i':Int))=false:=decide_eq_false (by omega)
       go_wp2_with (first |(go_at_call 87;refine (HT.out).mono ?_;rintro e w2 ⟨rfl,m2,rfl⟩;have HO2:=Lib.hid (own_dN HO.out m2)) |(go_at_call 84;refine (HLF.out _).mono ?_;rintro e w2 ⟨he,hw2⟩;obtain rfl:=hw2.symm;rw[HK.out] at he;subst he) |(at_builtin;refine wpList_append_own _ (by rfl) (.tmp 44) (.tmp 50) 129 (by rfl) w.heap.size 133 i0 _ 2 24 Tryd.underlying129 hi hz0 hz1 hz2 (by rfl) (by decide) u11 q (sideCells W) (by rfl) (HO2.out.alloc _) ⟨wr.heap.size,0,none⟩ 1 1 [.string x,.bool false] (by rfl) rfl (news_new _ _ _ _ _ rfl rfl) (by simp[Value.oneCell']) (by unfold maxLen;omega) (by omega) (by simp;omega) ?_;intro v3' w3 hown3 hg3 hnil3) |fail)
       go_roundw
       case rel=>
        have hlen:(W++[(x,false)]).length=q+1:=by rw[List.length_append,HQ.out,List.length_singleton]
        refine⟨k,i',m1,W++[(x,false)],rfl,rfl,by simp,by omega,by omega,by omega,by rw[hlen];omega,Lib.hid ?_,Lib.hid ?_,Lib.hid (HST.out false _ _ (by rw[if_neg (by simp)];exact⟨by omega,rfl,rfl⟩)),?_⟩
        ·rw[hlen,sideCells_snoc];exact hown3
        ·intro y hy;rcases List.mem_append.1 hy with h |h
         ·exact hw32.out y h
         ·rw[List.mem_singleton] at h;rw[h];exact HDS.out x (List.mem_of_getElem? HX.out)
        ·exact Below.grown ((below_dN hbel m2).alloc (by simpa using hNr) _) hg3 (by simp;omega) (fun k hk=>(HO2.out.lt k hk).1)
       case measure=>simp[lenOf]
  ·have hv:verifyB root n i s l=false:=by unfold verifyB;simp[h32]
   have h32':l.all dig32=false:=by simpa using h32
   have HV:=Lib.hid (And.intro hv h32');clear hv h32 h32';refine calls_of_wp_marks Tryd.func68 rfl ?_;simp only[Tryd.ntmps68,List.size_toArray,List.length_cons,List.length_nil,Nat.reduceAdd,Nat.reduceSub,Array.replicate_succ,Array.replicate_zero,List.push_toArray,List.append_toArray,List.nil_append,List.cons_append]
   go_wp2_with (first |(go_at_call 86;refine (HALL.out _ HR.out).mono ?_;rintro e w' ⟨he,rfl⟩;rw[HV.out.2] at he;subst he) |fail)
   refine⟨_,results_tmp rfl _ _ _,?_,Below.refl _ _⟩;rw[HV.out.1];rfl
 ·have hv:verifyB root n i s l=false:=by unfold verifyB;simp[hin]
  have HV:=Lib.hid hv;clear hv
  by_cases h0:i<0
  ·have d1:decide (i<0)=true:=decide_eq_true h0;refine calls_of_wp_marks Tryd.func68 rfl ?_;simp only[Tryd.ntmps68,List.size_toArray,List.length_cons,List.length_nil,Nat.reduceAdd,Nat.reduceSub,Array.replicate_succ,Array.replicate_zero,List.push_toArray,List.append_toArray,List.nil_append,List.cons_append]
   go_wp2
   refine⟨_,results_tmp rfl _ _ _,?_,Below.refl _ _⟩;rw[HV.out];rfl
  ·have d1:decide (i<0)=false:=decide_eq_false h0;have d2:decide (n<=i)=true:=decide_eq_true (by omega);refine calls_of_wp_marks Tryd.func68 rfl ?_;simp only[Tryd.ntmps68,List.size_toArray,List.length_cons,List.length_nil,Nat.reduceAdd,Nat.reduceSub,Array.replicate_succ,Array.replicate_zero,List.push_toArray,List.append_toArray,List.nil_append,List.cons_append]
   go_wp2
   refine⟨_,results_tmp rfl _ _ _,?_,Below.refl _ _⟩;rw[HV.out];rfl
end Go.Proofs.YtfdlmpicmkpabaaDoor.Ext
end
