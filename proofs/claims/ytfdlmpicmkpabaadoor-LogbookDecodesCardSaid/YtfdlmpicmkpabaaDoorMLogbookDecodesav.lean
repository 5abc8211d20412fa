import Derived.Test.YtfdlmpicmkpabaaDoorMLogbookDecodesau
import Derived.Test.YtfdlmpicmkpabaaDoorMLogbookDecodesar
/-
  Texts of this claim, one behind the other: what they prove stands above each.
-/
set_option linter.unusedVariables false
set_option linter.unusedSimpArgs false
section
namespace Go.Proofs.YtfdlmpicmkpabaaDoor.Ext
set_option maxRecDepth 100000
open Go.RowKit Go.Shelf Go.Proofs.YtfdlmpicmkpabaaDoorW.PrintWords Go.Proofs.YtfdlmpicmkpabaaDoorW.PrintLast Go.Proofs.YtfdlmpicmkpabaaDoorW.PrintMore
attribute [local go_sem] Oper.semAt_some
theorem wp_rangeFunc_stop{α:Type}{P:Program}{g:Operand}{ps:Array Tmp}{T:TypeId}{assign body:Code}{Q:Exit->Act->World->Prop}{a:Act}{w:World}
  {gf:Nat} {lb:Array Value} (hg:a.eval g=.func (.func gf) #[] lb) (eg:∀args w,(callFunc gf args).run P w=.ok (.enter gf args) w)
  {encs:α->Array Value} {xs:List α} {KS:Nat->Prop} {w0:World} (hZ:∀k,KS k->k<w.heap.size) (hseq:GivesStop Fence.wide 4 P gf lb encs xs KS w0) (hb0:Below w0.heap.size w0 w) (hps:∀x,(encs x).size=ps.size)
  (C:α->List Value) (act:Array Value->α->Nat->Act) (hassign:∀(l:Nat) (x:α) (W:World) (K:Act->World->Prop),K (act a.tmps x W.heap.size) (W.alloc (.cells (C x).toArray T))->
   assign.wpIn (Fence.wide.inRound l) 3 P (Exit.then K (fun _ _ _=>False)) { tmps:=(ps.zip (encs x)).foldl (fun t (p,v)=>t.setIfInBounds p v) a.tmps,defers:=[] } W)
  (I:List α->World->Prop) (Ix:Code->List α->World->Prop) (hI:OwnFrom w.heap.size I) (hIx:∀c,OwnFrom w.heap.size (Ix c)) (h0:I [] w)
  (hbody:∀(l:Nat) (pre:List α) (x:α) (B:Nat) (W:World),I pre W->Blk W B T (C x)->w.heap.size<=B->w.heap.size<=W.heap.size->body.wpIn (Fence.wide.inRound l) 3 P (ownPostG w.heap.size (fun W W'=>∀k,KS k->W'.heap[k]?=W.heap[k]?) (fun pre W=>I pre W∧w.heap.size<=W.heap.size) Ix (pre++[x]) W) (act a.tmps x B) W)
  (hdone:∀(D:Nat) (W:World),w.heap.size<=D->I xs W->W.heap[D]?=some (.deferred (some []))->Q .normal { a with defers:={ target:=.collected D,args:= #[] }::a.defers } W)
  (hstop:∀(D:Nat) (c:Code) (pre:List α) (W:World),w.heap.size<=D->pre<+:xs->Ix c pre W->W.heap[D]?=some (.deferred (some []))->c.wp P Q { a with defers:={ target:=.collected D,args:= #[] }::a.defers } W):
  (Code.rangeFunc g ps assign body).wp P Q a w:=by
 refine (wpIn_wide (n:=5)).1 (wpIn_rangeFunc_ownH (F:=Fence.wide) (n:=5) rfl (by decide) hg trivial eg hseq.stops (fun h k i hi=>(k i hi).trans (h i hi)) (fun W l o o' hl _ _ _ k hk=>World.putObj_heap_other (by have:=hZ k hk;omega)) hb0 hps
  (fun pre W=>I pre W∧w.heap.size<=W.heap.size) Ix (fun s W W' row hs hgr hr=>⟨hI s W W' row hs.1 hgr hr,Nat.le_trans hs.2 hgr.size⟩) hIx ⟨h0,Nat.le_refl _⟩
  (fun x a' W=>∃B,a'=act a.tmps x B∧(∃o:Obj,o.isCells=true∧W.heap[B]?=some o)∧Blk W B T (C x)∧w.heap.size<=B) ?_ ?_ ?_ ?_ ?_)
 ·rintro x a' s W W' row ⟨B,ha,ho,hb,hB⟩ hgr hr
  have hne:some B≠row:=fun e=>by
   obtain⟨_,o,ho',hc'⟩:=hr B e.symm;rw[hb.heap] at ho';injection ho' with ho'
   subst ho';simp[Obj.isCells] at hc'
  exact⟨B,ha,⟨_,rfl,(hb.grown hgr hne).heap⟩,hb.grown hgr hne,hB⟩
 ·intro l pre x W K hi hK;refine hassign l x W K (hK _ _ ((KeepsOthers.alloc _ _).from _) (fun k hk=>Below.heap_alloc _ _ _ (by have:=hZ k hk;omega)) ⟨hI.alloc _ hi.1,by simp;omega⟩ ⟨W.heap.size,rfl,⟨_,rfl,(Blk.new W T (C x)).heap⟩,Blk.new W T (C x),hi.2⟩)
 ·rintro l pre x a' W hl _ hi ⟨B,rfl,_,hb,hB⟩ _
  exact hbody l pre x B W hi.1 hb hB hi.2
 ·rintro D ys W hD rfl hi hk
  exact hdone D W hD hi.1 hk
 ·intro D c pre W hD hp hi hk;exact wpIn_wide.2 (hstop D c pre W hD hp hi hk)
def hit(kind at_:Int)(r:Rec):Bool:=r.f1==kind&&decide (r.f0<=at_)
def lastOf(kind at_:Int)(l:List (Nat × Rec)):Int:=match l.find? (fun p=>hit kind at_ p.2) with |some p=>(p.1:Int) |none=> -1
def findF(st:Int)(rs:List Rec)(kind at_:Int):Int:=if validB st rs then lastOf kind at_ (recsB rs) else -1
theorem find_none{p:Nat × Rec->Bool}{pre:List (Nat × Rec)}{x:Nat × Rec}(h:pre.find? p=none)(hx:p x=false):(pre++[x]).find? p=none:=by rw[List.find?_append,h];simp[hx]
theorem find_hit{p:Nat × Rec->Bool}{pre xs:List (Nat × Rec)}{x:Nat × Rec}(h:pre.find? p=none)(hx:p x=true)(hp:pre++[x]<+:xs):xs.find? p=some x:=by
 obtain⟨t,rfl⟩:=hp;rw[List.find?_append,List.find?_append,h];simp[hx]
theorem cast_blkF{W:World}{g g':Nat}{t:TypeId}{C:List Value}(h:Blk W g t C)(e:g=g'):Blk W g' t C:=e ▸ h
def fW(w:World)(st:Int)(A:Option Addr)(n c:Nat)(kind at_:Int):World:=(((w.alloc (.cells #[.int .i64 st,.slice A n c] 26)).alloc (.cells #[.int .i64 kind] 3)).alloc (.cells #[.int .i64 at_] 3)).alloc (.cells #[.int .i64 0] 3)
theorem fW_facts(w:World)(st:Int)(A:Option Addr)(n c:Nat)(kind at_:Int):Blk (fW w st A n c kind at_) w.heap.size 26 [.int .i64 st,.slice A n c]∧Blk (fW w st A n c kind at_) (w.heap.size+1) 3 [.int .i64 kind]∧Blk (fW w st A n c kind at_) (w.heap.size+2) 3 [.int .i64 at_]∧Blk (fW w st A n c kind at_) (w.heap.size+3) 3 [.int .i64 0]∧Below w.heap.size w (fW w st A n c kind at_)∧(fW w st A n c kind at_).heap.size=w.heap.size+4:=by
 unfold fW;exact⟨(((Blk.newA w _ _ _ rfl).alloc _).alloc _).alloc _,(cast_blkF ((Blk.newA _ _ _ _ rfl).alloc _) (by simp)).alloc _,(cast_blkF (Blk.newA _ _ _ _ rfl) (by simp)).alloc _,cast_blkF (Blk.newA _ _ _ _ rfl) (by simp),
  ((((Below.refl _ _).alloc (Nat.le_refl _) _).alloc (by simp) _).alloc (by simp;omega) _).alloc (by simp;omega) _,by simp⟩
set_option maxHeartbeats 4000000 in
theorem find_walk(st:Int)(A:Option Addr)(n c:Nat)(rs:List Rec)(hl:rs.length=n)(kind at_:Int)(w:World)(hC:Kd.C kRec w A n rs)(hc:n<=c)(hn:n<=1000000)(hA:∀ad,A=some ad->0<n->ad.block<w.heap.size):
  Calls Tryd.prog 29 #[.agg #[.int .i64 st,.slice A n c],.int .i64 kind,.int .i64 at_] w fun e w'=>e=.returned (.int .i64 (findF st rs kind at_))∧Below w.heap.size w w':=by
 have HL:=Lib.hid hl;have HA:=Lib.hid hA;obtain⟨q,hq⟩:∃q,findF st rs kind at_=q:=⟨_,rfl⟩
 rw[hq];have HQ:=Lib.hid hq;clear hq;refine calls_of_wp_marks Tryd.func29 rfl ?_;simp only[Tryd.ntmps29,List.size_toArray,List.length_cons,List.length_nil,Nat.reduceAdd,Nat.reduceSub,Array.replicate_succ,Array.replicate_zero,List.push_toArray,List.append_toArray,List.nil_append,List.cons_append]
 go_upto_region 1 with (fail)
 obtain⟨hb0,hb1,hb2,hb3,hbw,hsz⟩:=fW_facts w st A n c kind at_;have hC1:=Kd.C_below hC hbw;change Code.wp _ _ _ _ (fW w st A n c kind at_);generalize fW w st A n c kind at_=W1 at*
 have x0:=hb0.cell (j:=0) rfl;have x1:=hb0.cell (j:=1) rfl;have HVW:=Lib.hid (fun W hW=>valid_walk st A n c rs hl W hW hc (by omega));have HC1:=Lib.hid hC1;have HB0:=Lib.hid hb0;have HB1:=Lib.hid hb1;have HB2:=Lib.hid hb2;have HB3:=Lib.hid hb3;have HBW:=Lib.hid hbw;have HSZ:=Lib.hid hsz;clear hl hA hC hC1 hb0 hb1 hb2 hb3 hbw hsz
 cases hv:validB st rs with
 |false=>
  have hF:q= -1:=by rw[<-HQ.out];unfold findF;rw[hv];rfl
  subst hF;have HV:=Lib.hid hv;clear hv;have f3:=HB3.out.free 0
  go_upto_region 2 with (first |(go_at_call 26;(with_reducible refine (HVW.out _ HC1.out).mono ?_);rintro e w2 ⟨rfl,hb2⟩;rw[HV.out]) |fail)
  have hR2:=HB3.out.belowS hb2;have z0:=hR2.cell (j:=0) rfl;have z1:=hR2.free 0;have hR3:=hR2.set 0 (.int .i64 (-1));have zz0:=hR3.cell (j:=0) rfl;have hb3:Below w.heap.size w (w2.setCell ⟨w.heap.size+3,0,none⟩ (.int .i64 (-1))):=(Below.trans HBW.out (hb2.mono (by have:=HSZ.out;omega))).setCell (p:=⟨w.heap.size+3,0,none⟩) (by simp) _
  go_wp2
  exact⟨.int .i64 (-1),by simp[results,Tryd.f29,go_sem,show (w2.setCell ⟨w.heap.size+1+1+1,0,none⟩ (.int .i64 (-1))).cell? ⟨w.heap.size+1+1+1,0,none⟩=some (.int .i64 (-1)) from zz0],rfl,hb3⟩
 |true=>
  have HV:=Lib.hid hv;clear hv
  go_upto_region 3 with (first |(go_at_call 26;(with_reducible refine (HVW.out _ HC1.out).mono ?_);rintro e w2 ⟨rfl,hb2⟩;rw[HV.out]) |fail)
  have y0:=(HB0.out.belowS hb2).cell (j:=0) rfl;have y1:=(HB0.out.belowS hb2).cell (j:=1) rfl;clear x0 x1
  go_wp2_with (first |(go_at_call 62;(with_reducible refine (lbBack_walk st A n c _).mono ?_);rintro e w3 ⟨rfl,rfl⟩) |fail)
  have hs1:w.heap.size+4<=w2.heap.size:=by have:=hb2.size;have:=HSZ.out;omega
  have hb20:Below w.heap.size w w2:=Below.trans HBW.out (hb2.mono (by have:=HSZ.out;omega));have hbB:Blk (w2.alloc (.cells #[.int .i64 st,.slice A n c] 26)) w2.heap.size 26 [.int .i64 st,.slice A n c]:=Blk.newA _ _ _ _ rfl;have hC0:=Kd.C_below HC1.out (Below.trans hb2 ((Below.refl _ _).alloc hb2.size (.cells #[.int .i64 st,.slice A n c] 26)));have hk0:=((HB1.out.belowS hb2).alloc (.cells #[.int .i64 st,.slice A n c] 26));have ha0:=((HB2.out.belowS hb2).alloc (.cells #[.int .i64 st,.slice A n c] 26));have hr0:=((HB3.out.belowS hb2).alloc (.cells #[.int .i64 st,.slice A n c] 26));have hbl0:=hb20.alloc hb20.size (.cells #[.int .i64 st,.slice A n c] 26);have hs0:(w2.alloc (.cells #[.int .i64 st,.slice A n c] 26)).heap.size=w2.heap.size+1:=by simp
  generalize w2.alloc (.cells #[.int .i64 st,.slice A n c] 26)=W0 at*
  obtain⟨B,hB⟩:∃B,w2.heap.size=B:=⟨_,rfl⟩
  rw[hB] at hbB hs0 hs1 ⊢;have HG:=Lib.hid (backR_gives w.heap.size B st A n c rs HL.out (by omega) W0 hbB hC0 HA.out hbl0.size);have HBB:=Lib.hid (And.intro hs0 hs1);clear y0 y1 hb2 hb20 hB w2 hbB hC0 HVW HC1 HB0 HB1 HB2 HB3 HBW HSZ W1 hs0 hs1;refine wp_rangeFunc_stop (T:=43) (gf:=83) (lb:= #[.pointer (some ⟨B,0,none⟩)]) rfl (enters_of Tryd.func83 (by kernel_rfl) rfl) ?hZ HG.out (Below.refl _ _) (fun _=>rfl) (fun p=>rcells p.2)
   (fun tm p Bx=>{ tmps:=(((tm.setIfInBounds 14 (.int .i64 (p.1:Int))).setIfInBounds 15 (rval p.2)).setIfInBounds 7 (.int .i64 (p.1:Int))).setIfInBounds 8 (.pointer (some ⟨Bx,0,none⟩)),defers:=[] }) ?assign
   (fun pre W=>pre.find? (fun p=>hit kind at_ p.2)=none∧Blk W (w.heap.size+1) 3 [.int .i64 kind]∧Blk W (w.heap.size+2) 3 [.int .i64 at_]∧Blk W (w.heap.size+3) 3 [.int .i64 0]∧Below w.heap.size w W)
   (fun c pre W=>c=.ret∧(∃p' x,pre=p'++[x]∧p'.find? (fun p=>hit kind at_ p.2)=none∧hit kind at_ x.2=true∧Blk W (w.heap.size+3) 3 [.int .i64 (x.1:Int)])∧Below w.heap.size w W)
   ?hI ?hIx ⟨rfl,hk0,ha0,hr0,hbl0⟩ ?body ?done ?stop
  case hZ=>
   have:=HBB.out
   rintro k (rfl |hk)<;>omega
  case assign=>
   intro l p W K hK
   gi_wp2
   simpa using hK
  case hI=>
   have:=HBB.out;exact OwnFrom.and (ownFrom_pure _ _) (OwnFrom.and (own_blk (fun _=>_) (by omega)) (OwnFrom.and (own_blk (fun _=>_) (by omega)) (OwnFrom.and (own_blk (fun _=>_) (by omega)) (ownFrom_below (Nat.le_refl _) (by omega)))))
  case hIx=>
   have:=HBB.out;intro c s W W' row ⟨hc,⟨p',x,hp,hn',hx,hr⟩,hb⟩ hg hr';exact⟨hc,⟨p',x,hp,hn',hx,own_blk (β:=Unit) (B:=W0.heap.size) (fun _=>[.int .i64 (x.1:Int)]) (by omega) () W W' row hr hg hr'⟩,ownFrom_below (β:=Unit) (n₀:=w.heap.size) (B:=W0.heap.size) (Nat.le_refl _) (by omega) () W W' row hb hg hr'⟩
  case body=>
   clear hk0 ha0 hr0 hbl0
   rintro l pre p Bx W ⟨hnone,hk,ha,hr,hbl⟩ hx hBx hszW
   have HNO:=Lib.hid hnone;have HBL:=Lib.hid hbl;have HR:=Lib.hid hr;have HK':=Lib.hid hk;have HA':=Lib.hid ha;have HX:=Lib.hid (And.intro hBx hszW);have k0:=hk.cell (j:=0) rfl;have a0:=ha.cell (j:=0) rfl;have r0:=hr.cell (j:=0) rfl;have rf:=hr.free 0;have c0:=hx.cell (j:=0) rfl;have c1:=hx.cell (j:=1) rfl;clear hnone hbl hr hk ha hBx hszW hx;simp only[List.setIfInBounds_toArray,List.set_cons_succ,List.set_cons_zero]
   by_cases h1:p.2.f1=kind
   ·have e1:(p.2.f1==kind)=true:=by simpa using h1
    by_cases h2:p.2.f0<=at_
    ·have e2:decide (p.2.f0<=at_)=true:=decide_eq_true h2;have hh:hit kind at_ p.2=true:=by unfold hit;rw[e1,e2];rfl
     have HH:=Lib.hid hh;clear hh h1 h2
     gi_wp2_with fail
     have:=HBB.out;exact⟨keeps_grown (grownBy_setCell' W (w.heap.size+3) _) (by omega),rfl,⟨pre,p,rfl,HNO.out,HH.out,HR.out.set 0 _⟩,HBL.out.setCell (p:=⟨w.heap.size+3,0,none⟩) (by simp) _⟩
    ·have e2:decide (p.2.f0<=at_)=false:=decide_eq_false h2;have hh:hit kind at_ p.2=false:=by unfold hit;rw[e1,e2];rfl
     have HH:=Lib.hid hh;clear hh h1 h2
     gi_wp2_with fail
     exact⟨KeepsFrom.refl _ _,fun k hk=>rfl,⟨find_none HNO.out HH.out,HK'.out,HA'.out,HR.out,HBL.out⟩,HX.out.2⟩
   ·have e1:(p.2.f1==kind)=false:=by simpa using h1
    have hh:hit kind at_ p.2=false:=by unfold hit;rw[e1];rfl
    have HH:=Lib.hid hh;clear hh h1
    gi_wp2_with fail
    exact⟨KeepsFrom.refl _ _,fun k hk=>rfl,⟨find_none HNO.out HH.out,HK'.out,HA'.out,HR.out,HBL.out⟩,HX.out.2⟩
  case done=>
   rintro D W hD ⟨hnone,hk,ha,hr,hbl⟩ hK
   have HBL:=Lib.hid hbl;have r0:=hr.cell (j:=0) rfl;have rf:=hr.free 0;have hR3:=hr.set 0 (.int .i64 (-1));have hq:q= -1:=by rw[<-HQ.out];unfold findF lastOf;rw[HV.out,if_pos rfl,hnone]
   subst hq;have hD3:D≠w.heap.size+3:=by have:=HBB.out;omega
   have hK':(W.setCell ⟨w.heap.size+3,0,none⟩ (.int .i64 (-1))).heap[D]?=some (.deferred (some [])):=(Below.heap_setCell _ _ _ D hD3).trans hK;have hR4:Blk ((W.setCell ⟨w.heap.size+3,0,none⟩ (.int .i64 (-1))).putObj D (.deferred none)) (w.heap.size+3) 3 [.int .i64 (-1)]:=hR3.move (World.putObj_heap_other (by omega));have zz0:=hR4.cell (j:=0) rfl;have hb3:=hbl.setCell (p:=⟨w.heap.size+3,0,none⟩) (by simp) (.int .i64 (-1));have hb4:=hb3.trans (belowK_b (w:=w) (Nat.le_refl _) _ D _ (.deferred none) (by have:=HBB.out;omega) hK' rfl rfl);clear hk ha hr hnone hR3 hbl
   go_wp2
   refine⟨by simp,.inl ⟨_,_,rfl,run_takeDeferred hK',?_⟩⟩;exact⟨.int .i64 (-1),by simp[results,Tryd.f29,go_sem,show ((W.setCell ⟨w.heap.size+1+1+1,0,none⟩ (.int .i64 (-1))).putObj D (.deferred none)).cell? ⟨w.heap.size+1+1+1,0,none⟩=some (.int .i64 (-1)) from zz0],rfl,hb4⟩
  case stop=>
   rintro D c pre W hD hp ⟨rfl,⟨p',x,rfl,hn',hx,hr⟩,hbl⟩ hK
   have hq:q=(x.1:Int):=by rw[<-HQ.out];unfold findF lastOf;rw[HV.out,if_pos rfl,find_hit hn' hx hp]
   subst hq;have hR4:Blk (W.putObj D (.deferred none)) (w.heap.size+3) 3 [.int .i64 (x.1:Int)]:=hr.move (World.putObj_heap_other (by have:=HBB.out;omega));have zz0:=hR4.cell (j:=0) rfl;have hb4:=hbl.trans (belowK_b (w:=w) (Nat.le_refl _) _ D _ (.deferred none) (by have:=HBB.out;omega) hK rfl rfl)
   go_wp2
   refine⟨by simp,.inl ⟨_,_,rfl,run_takeDeferred hK,?_⟩⟩;exact⟨.int .i64 (x.1:Int),by simp[results,Tryd.f29,go_sem,show (W.putObj D (.deferred none)).cell? ⟨w.heap.size+1+1+1,0,none⟩=some (.int .i64 (x.1:Int)) from zz0],rfl,hb4⟩
end Go.Proofs.YtfdlmpicmkpabaaDoor.Ext
end
