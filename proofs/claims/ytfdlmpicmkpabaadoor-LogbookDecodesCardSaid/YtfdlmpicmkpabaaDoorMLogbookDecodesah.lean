import Derived.RangeFuncNested
import Derived.RangeFuncBound
import Derived.RangeFuncBox
import Derived.Below
import Derived.RangeFuncLeaves
import Derived.OwnWalkIn
import Derived.TacticsInMore
import Derived.Shelf.Abstract
import Derived.Test.YtfdlmpicmkpabaaDoorMLogbookDecodesac
/-
  Texts of this claim, one behind the other: what they prove stands above each.
-/
set_option linter.unusedVariables false
set_option linter.unusedSimpArgs false
section
namespace Go.Proofs.YtfdlmpicmkpabaaDoor.Ext
set_option maxRecDepth 100000
open Go.RowKit Go.Shelf
attribute [local go_sem] Oper.semAt_some
variable {F:Fence} {n:Nat} {P:Program}
def GivesAllK{α:Type}(F:Fence)(n:Nat)(P:Program)(g:Nat)(lb:Array Value)(encs:α->Array Value)(xs:List α)(KS:Nat->Prop)(w:World):Prop:=
 ∀(l:Nat) (J:List α->World->Prop) (W:World),Below w.heap.size w W->AbidesFrom W.heap.size J->
  (∀pre x W1,J pre W1->pre++[x]<+:xs->YieldAt F (n - 1) P l (encs x) W1 fun e W'=>e=.returned (.bool true)∧J (pre++[x]) W'∧∀k,KS k->W'.heap[k]?=W1.heap[k]?)->
  J [] W->CallsIn F n P g (#[.func (.yield l) #[] #[]]++lb) W fun e W'=>(∃v,e=.returned v)∧J xs W'
def goesOnK{α:Type}(B:Nat)(KS:Nat->Prop)(I:List α->World->Prop)(xs:List α)(W:World):Exit->Act->World->Prop
 | .normal,_,W'=>KeepsFrom B W W'∧(∀k,KS k->W'.heap[k]?=W.heap[k]?)∧I xs W'
 |_,_,_=>False
theorem wpIn_rangeFunc_keep{α:Type}{g:Operand}{ps:Array Tmp}{assign body:Code}{Q:Exit->Act->World->Prop}{a:Act}{w:World}
  (hro:F.round=none) (h1:1<=n) {gf:Nat} {lb:Array Value} (hg:a.eval g=.func (.func gf) #[] lb) (hFg:F.fn gf) (eg:∀args w,(callFunc gf args).run P w=.ok (.enter gf args) w)
  {encs:α->Array Value} {xs:List α} {KS:Nat->Prop} {w0:World} (hZ:∀k,KS k->k<w.heap.size) (hseq:GivesAllK F (n - 1) P gf lb encs xs KS w0) (hb0:Below w0.heap.size w0 w) (hps:∀x,(encs x).size=ps.size)
  (I:List α->World->Prop) (hI:OwnFrom w.heap.size I) (h0:I [] w) (a₁:α->Act)
  (hassign:∀(l:Nat) (x:α) (W:World) (K:Act->World->Prop),K (a₁ x) W->
   assign.wpIn (F.inRound l) (n - 1 - 1) P (Exit.then K (fun _ _ _=>False)) { tmps:=(ps.zip (encs x)).foldl (fun t (p,v)=>t.setIfInBounds p v) a.tmps,defers:=[] } W)
  (hbody:∀(l:Nat) (pre:List α) (x:α) (W:World),I pre W->pre++[x]<+:xs->body.wpIn (F.inRound l) (n - 1 - 1) P (goesOnK w.heap.size KS I (pre++[x]) W) (a₁ x) W)
  (hdone:∀(D:Nat) (W:World),w.heap.size<=D->I xs W->W.heap[D]?=some (.deferred (some []))->Q .normal { a with defers:={ target:=.collected D,args:= #[] }::a.defers } W):
  (Code.rangeFunc g ps assign body).wpIn F n P Q a w:=by
 refine wpIn_rangeFunc ?_;intro fn hfn;rw[hro];obtain⟨rec,hrec⟩:∃rec:LoopState->Option Code->Loop,rec=fun st pe=>{ state:=st,pending:=pe,fn,tmps:=a.tmps,params:=ps,assign,body,defers:=w.heap.size }:=⟨_,rfl⟩
 obtain⟨W1,hW1⟩:∃W1,(w.alloc (.deferred (some []))).alloc (.loop (rec .ready none))=W1:=⟨_,rfl⟩
 have hL1:W1.heap[w.heap.size+1]?=some (.loop (rec .ready none)):=by
  rw[<-hW1];have:=World.alloc_heap_new (w.alloc (.deferred (some []))) (.loop (rec .ready none));rwa [World.size_alloc] at this
 have hK1:W1.heap[w.heap.size]?=some (.deferred (some [])):=by
  rw[<-hW1];exact (Below.heap_alloc _ _ _ (by simp)).trans (World.alloc_heap_new w _)
 have hb1:Below w0.heap.size w0 W1:=by
  rw[<-hW1];exact hb0.trans ((((Below.refl _ w).alloc (Nat.le_refl _) _).alloc (by simp) _).mono hb0.size)
 have hI1:I [] W1:=by rw[<-hW1];exact hI.alloc _ (hI.alloc _ h0)
 refine⟨w.heap.size+1,[{ target:=.collected w.heap.size,args:= #[] }],W1,{ target:=.fn (.func gf) lb,args:= #[.func (.yield (w.heap.size+1)) #[] #[]] },W1,gf,
  #[.func (.yield (w.heap.size+1)) #[] #[]]++lb,W1,?_,?_,?_,?_,fun _=>h1,?_⟩
 ·rw[<-hW1,hrec];exact run_enterLoop_outer _ _ _ _ _
 ·simp only[resolve,hg];simp[go_sem]
 ·intro f' hf';simp[Target.leads] at hf';subst hf';exact hFg
 ·simp[invoke,go_sem,eg]
 ·have far:∀{A B:World} {row:Option Nat},(∀r,row=some r->W1.heap.size<=r∧∃o:Obj,A.heap[r]?=some o∧o.isWalk=true)->(∀r,row=some r->w.heap.size<=r∧∃o:Obj,A.heap[r]?=some o∧o.isCells=false):=
   fun hr r e=>by obtain⟨hB,o,ho,hw⟩:=hr r e;exact⟨by rw[<-hW1] at hB;simp at hB;omega,o,ho,Obj.not_cells_of_walk hw⟩
  refine (hseq (w.heap.size+1) (fun pre W=>I pre W∧W.heap[w.heap.size+1]?=some (.loop (rec .ready none))∧W.heap[w.heap.size]?=some (.deferred (some []))) W1 hb1
   (fun s A B row hs hg' hr=>⟨hI s A B row hs.1 hg' (far (B:=B) hr),(grownBy_keeps hg' (fun r e=>(hr r e).2) hs.2.1 rfl).trans hs.2.1,(grownBy_keeps hg' (fun r e=>(hr r e).2) hs.2.2 rfl).trans hs.2.2⟩) ?_ ⟨hI1,hL1,hK1⟩).mono ?_
  ·rintro pre x W ⟨hi,hl,hk⟩ hpre
   have hlt:w.heap.size+1<W.heap.size:=(Array.getElem?_eq_some_iff.1 hl).1;have hy:=run_yield (P:=P) (args:=encs x) hl (by rw[hrec];exact hps x);rw[hrec] at hy;refine⟨fn,_,assign,body,hy,roundIn_of_wpIn hfn (hassign _ x W _ ⟨_,run_beginRound hl (by rw[hrec]),?_⟩)⟩;have hl2:(W.putObj (w.heap.size+1) (.loop { rec .ready none with state:=.busy })).heap[w.heap.size+1]?=some (.loop { rec .ready none with state:=.busy }):=World.putObj_heap_same hlt;have hk2:(W.putObj (w.heap.size+1) (.loop { rec .ready none with state:=.busy })).heap[w.heap.size]?=some (.deferred (some [])):=(World.putObj_heap_other (by omega)).trans hk;have hc2:∀k,KS k->(W.putObj (w.heap.size+1) (.loop { rec .ready none with state:=.busy })).heap[k]?=W.heap[k]?:=fun k hk=>World.putObj_heap_other (by have:=hZ k hk;omega)
   refine wpIn_mono (hbody _ pre x _ (hI.putObj _ hi (by omega) hl rfl) hpre) ?_
   rintro e a3 W3 hp
   cases e with
   |normal=>
    obtain⟨hk3,hc3,hi3⟩:=hp;have hl3:=hk3.same _ _ (by omega) hl2 rfl;have hr:=run_endRound (P:=P) none hl3;rw[hrec] at hl3;rw[hrec] at hr;have hc4:∀k,KS k->(W3.putObj (w.heap.size+1) (.loop (rec .ready none))).heap[k]?=W3.heap[k]?:=fun k hk=>World.putObj_heap_other (by have:=hZ k hk;omega)
    rw[hrec] at hc4;refine⟨_,_,hr,rfl,⟨hI.putObj _ hi3 (by omega) hl3 rfl,?_,?_⟩,fun k hk=>(hc4 k hk).trans ((hc3 k hk).trans (hc2 k hk))⟩
    ·rw[hrec];exact World.putObj_heap_same (Array.getElem?_eq_some_iff.1 hl3).1
    ·exact (World.putObj_heap_other (by omega)).trans (hk3.same _ _ (Nat.le_refl _) hk2 rfl)
   |ret=>exact hp.elim
   |exit id=>exact hp.elim
   |goto t=>exact hp.elim
   |panic ch=>exact hp.elim
   |outgrown=>exact hp.elim
  ·rintro e W2 ⟨⟨v,rfl⟩,hi,hl,hk⟩
   exact⟨none,_,by have:=run_endLoop (P:=P) hl (by rw[hrec];simp);rw[hrec] at this;exact this,hdone _ _ (Nat.le_refl _) (hI.putObj _ hi (by omega) hl rfl) ((World.putObj_heap_other (by omega)).trans hk)⟩
theorem wpIn_rangeFunc_keepA{α:Type}{g:Operand}{ps:Array Tmp}{assign body:Code}{Q:Exit->Act->World->Prop}{a:Act}{w:World}
  (hro:F.round=none) (h1:1<=n) {gf:Nat} {lb:Array Value} (hg:a.eval g=.func (.func gf) #[] lb) (hFg:F.fn gf) (eg:∀args w,(callFunc gf args).run P w=.ok (.enter gf args) w)
  {encs:α->Array Value} {xs:List α} {KS:Nat->Prop} {w0:World} (hZ:∀k,KS k->k<w.heap.size) (hseq:GivesAllK F (n - 1) P gf lb encs xs KS w0) (hb0:Below w0.heap.size w0 w) (hps:∀x,(encs x).size=ps.size)
  (I:List α->World->Prop) (hI:OwnFrom w.heap.size I) (h0:I [] w) (Ax:α->Act->World->Prop) (hAx:∀x a',OwnFrom w.heap.size (fun(_:Unit) W=>Ax x a' W))
  (hassign:∀(l:Nat) (x:α) (W:World) (K:Act->World->Prop),w.heap.size<=W.heap.size->(∀a' W',W.grownBy W' none->Ax x a' W'->K a' W')->
   assign.wpIn (F.inRound l) (n - 1 - 1) P (Exit.then K (fun _ _ _=>False)) { tmps:=(ps.zip (encs x)).foldl (fun t (p,v)=>t.setIfInBounds p v) a.tmps,defers:=[] } W)
  (hbody:∀(l:Nat) (pre:List α) (x:α) (a':Act) (W:World),I pre W->Ax x a' W->pre++[x]<+:xs->body.wpIn (F.inRound l) (n - 1 - 1) P (goesOnK w.heap.size KS I (pre++[x]) W) a' W)
  (hdone:∀(D:Nat) (W:World),w.heap.size<=D->I xs W->W.heap[D]?=some (.deferred (some []))->Q .normal { a with defers:={ target:=.collected D,args:= #[] }::a.defers } W):
  (Code.rangeFunc g ps assign body).wpIn F n P Q a w:=by
 refine wpIn_rangeFunc ?_;intro fn hfn;rw[hro];obtain⟨rec,hrec⟩:∃rec:LoopState->Option Code->Loop,rec=fun st pe=>{ state:=st,pending:=pe,fn,tmps:=a.tmps,params:=ps,assign,body,defers:=w.heap.size }:=⟨_,rfl⟩
 obtain⟨W1,hW1⟩:∃W1,(w.alloc (.deferred (some []))).alloc (.loop (rec .ready none))=W1:=⟨_,rfl⟩
 have hL1:W1.heap[w.heap.size+1]?=some (.loop (rec .ready none)):=by
  rw[<-hW1];have:=World.alloc_heap_new (w.alloc (.deferred (some []))) (.loop (rec .ready none));rwa [World.size_alloc] at this
 have hK1:W1.heap[w.heap.size]?=some (.deferred (some [])):=by
  rw[<-hW1];exact (Below.heap_alloc _ _ _ (by simp)).trans (World.alloc_heap_new w _)
 have hb1:Below w0.heap.size w0 W1:=by
  rw[<-hW1];exact hb0.trans ((((Below.refl _ w).alloc (Nat.le_refl _) _).alloc (by simp) _).mono hb0.size)
 have hI1:I [] W1:=by rw[<-hW1];exact hI.alloc _ (hI.alloc _ h0)
 refine⟨w.heap.size+1,[{ target:=.collected w.heap.size,args:= #[] }],W1,{ target:=.fn (.func gf) lb,args:= #[.func (.yield (w.heap.size+1)) #[] #[]] },W1,gf,
  #[.func (.yield (w.heap.size+1)) #[] #[]]++lb,W1,?_,?_,?_,?_,fun _=>h1,?_⟩
 ·rw[<-hW1,hrec];exact run_enterLoop_outer _ _ _ _ _
 ·simp only[resolve,hg];simp[go_sem]
 ·intro f' hf';simp[Target.leads] at hf';subst hf';exact hFg
 ·simp[invoke,go_sem,eg]
 ·have far:∀{A B:World} {row:Option Nat},(∀r,row=some r->W1.heap.size<=r∧∃o:Obj,A.heap[r]?=some o∧o.isWalk=true)->(∀r,row=some r->w.heap.size<=r∧∃o:Obj,A.heap[r]?=some o∧o.isCells=false):=
   fun hr r e=>by obtain⟨hB,o,ho,hw⟩:=hr r e;exact⟨by rw[<-hW1] at hB;simp at hB;omega,o,ho,Obj.not_cells_of_walk hw⟩
  refine (hseq (w.heap.size+1) (fun pre W=>I pre W∧W.heap[w.heap.size+1]?=some (.loop (rec .ready none))∧W.heap[w.heap.size]?=some (.deferred (some []))) W1 hb1
   (fun s A B row hs hg' hr=>⟨hI s A B row hs.1 hg' (far (B:=B) hr),(grownBy_keeps hg' (fun r e=>(hr r e).2) hs.2.1 rfl).trans hs.2.1,(grownBy_keeps hg' (fun r e=>(hr r e).2) hs.2.2 rfl).trans hs.2.2⟩) ?_ ⟨hI1,hL1,hK1⟩).mono ?_
  ·rintro pre x W ⟨hi,hl,hk⟩ hpre
   have hlt:w.heap.size+1<W.heap.size:=(Array.getElem?_eq_some_iff.1 hl).1;have hy:=run_yield (P:=P) (args:=encs x) hl (by rw[hrec];exact hps x);rw[hrec] at hy;refine⟨fn,_,assign,body,hy,roundIn_of_wpIn hfn (hassign _ x W _ (by omega) (fun a' Wa hga hax=>?_))⟩;have hlA:Wa.heap[w.heap.size+1]?=some (.loop (rec .ready none)):=(hga.block _ hlt (by simp)).trans hl;have hkA:Wa.heap[w.heap.size]?=some (.deferred (some [])):=(hga.block _ (by omega) (by simp)).trans hk;have hiA:I pre Wa:=hI pre W Wa none hi hga (fun r e=>by cases e);have hltA:w.heap.size+1<Wa.heap.size:=(Array.getElem?_eq_some_iff.1 hlA).1;refine⟨_,run_beginRound hlA (by rw[hrec]),?_⟩;have hl2:(Wa.putObj (w.heap.size+1) (.loop { rec .ready none with state:=.busy })).heap[w.heap.size+1]?=some (.loop { rec .ready none with state:=.busy }):=World.putObj_heap_same hltA;have hk2:(Wa.putObj (w.heap.size+1) (.loop { rec .ready none with state:=.busy })).heap[w.heap.size]?=some (.deferred (some [])):=(World.putObj_heap_other (by omega)).trans hkA;have hc2:∀k,KS k->(Wa.putObj (w.heap.size+1) (.loop { rec .ready none with state:=.busy })).heap[k]?=W.heap[k]?:=fun k hk=>(World.putObj_heap_other (by have:=hZ k hk;omega)).trans (hga.block k (by have:=hZ k hk;omega) (by simp))
   refine wpIn_mono (hbody _ pre x a' _ (hI.putObj _ hiA (by omega) hlA rfl) ((hAx x a').putObj (s:=()) _ hax (by omega) hlA rfl) hpre) ?_
   rintro e a3 W3 hp
   cases e with
   |normal=>
    obtain⟨hk3,hc3,hi3⟩:=hp;have hl3:=hk3.same _ _ (by omega) hl2 rfl;have hr:=run_endRound (P:=P) none hl3;rw[hrec] at hl3;rw[hrec] at hr;have hc4:∀k,KS k->(W3.putObj (w.heap.size+1) (.loop (rec .ready none))).heap[k]?=W3.heap[k]?:=fun k hk=>World.putObj_heap_other (by have:=hZ k hk;omega)
    rw[hrec] at hc4;refine⟨_,_,hr,rfl,⟨hI.putObj _ hi3 (by omega) hl3 rfl,?_,?_⟩,fun k hk=>(hc4 k hk).trans ((hc3 k hk).trans (hc2 k hk))⟩
    ·rw[hrec];exact World.putObj_heap_same (Array.getElem?_eq_some_iff.1 hl3).1
    ·exact (World.putObj_heap_other (by omega)).trans (hk3.same _ _ (Nat.le_refl _) hk2 rfl)
   |ret=>exact hp.elim
   |exit id=>exact hp.elim
   |goto t=>exact hp.elim
   |panic ch=>exact hp.elim
   |outgrown=>exact hp.elim
  ·rintro e W2 ⟨⟨v,rfl⟩,hi,hl,hk⟩
   exact⟨none,_,by have:=run_endLoop (P:=P) hl (by rw[hrec];simp);rw[hrec] at this;exact this,hdone _ _ (Nat.le_refl _) (hI.putObj _ hi (by omega) hl rfl) ((World.putObj_heap_other (by omega)).trans hk)⟩
theorem calls_of_wp_marks{P:Program}{f:FuncId}{fn:Func}{c:Code}{args:Array Value}{w:World}{R:Ending->World->Prop}(hf:P.funcs[f]?=some fn)(hb:fn.body=some c)
  (h:c.wp P (bodyPostM Fence.wide 5 P fn R) { tmps:=args++Array.replicate (fn.ntmps - args.size) undef,defers:=[] } w):Calls P f args w R:=
 (callsIn_wide (n:=5)).1 (callsIn_of_wp_marks hf hb trivial (wpIn_wide.2 h) rfl)
theorem wp_rangeFunc_keep{α:Type}{P:Program}{g:Operand}{ps:Array Tmp}{assign body:Code}{Q:Exit->Act->World->Prop}{a:Act}{w:World}
  {gf:Nat} {lb:Array Value} (hg:a.eval g=.func (.func gf) #[] lb) (eg:∀args w,(callFunc gf args).run P w=.ok (.enter gf args) w)
  {encs:α->Array Value} {xs:List α} {KS:Nat->Prop} {w0:World} (hZ:∀k,KS k->k<w.heap.size) (hseq:GivesAllK Fence.wide 4 P gf lb encs xs KS w0) (hb0:Below w0.heap.size w0 w) (hps:∀x,(encs x).size=ps.size)
  (I:List α->World->Prop) (hI:OwnFrom w.heap.size I) (h0:I [] w) (a₁:α->Act)
  (hassign:∀(l:Nat) (x:α) (W:World) (K:Act->World->Prop),K (a₁ x) W->
   assign.wpIn (Fence.wide.inRound l) 3 P (Exit.then K (fun _ _ _=>False)) { tmps:=(ps.zip (encs x)).foldl (fun t (p,v)=>t.setIfInBounds p v) a.tmps,defers:=[] } W)
  (hbody:∀(l:Nat) (pre:List α) (x:α) (W:World),I pre W->pre++[x]<+:xs->body.wpIn (Fence.wide.inRound l) 3 P (goesOnK w.heap.size KS I (pre++[x]) W) (a₁ x) W)
  (hdone:∀(D:Nat) (W:World),w.heap.size<=D->I xs W->W.heap[D]?=some (.deferred (some []))->Q .normal { a with defers:={ target:=.collected D,args:= #[] }::a.defers } W):
  (Code.rangeFunc g ps assign body).wp P Q a w:=
 (wpIn_wide (n:=5)).1 (wpIn_rangeFunc_keep (F:=Fence.wide) (n:=5) rfl (by decide) hg trivial eg hZ hseq hb0 hps I hI h0 a₁ hassign hbody hdone)
theorem assign_one{l n:Nat}{P:Program}{id d p:Nat}{ty:TypeId}{pos:String}{tmps:Array Value}{W:World}{K:Act->World->Prop}(h:K { tmps:=tmps.setIfInBounds d (tmps.getD p undef),defers:=[] } W):
  (Code.region id #[{ dst:=some d,op:=.assign (.tmp p),type:=ty,pos:=pos,after:= #[],guard:=none }] false).wpIn (Fence.wide.inRound l) n P (Exit.then K (fun _ _ _=>False)) { tmps:=tmps,defers:=[] } W:=by
 gi_wp2
 simpa using h
def roundAct(ps:Array Tmp)(tmps:Array Value)(d p:Nat)(vs:Array Value):Act:=
 { tmps:=((ps.zip vs).foldl (fun t (p,v)=>t.setIfInBounds p v) tmps).setIfInBounds d (((ps.zip vs).foldl (fun t (p,v)=>t.setIfInBounds p v) tmps).getD p undef),defers:=[] }
theorem wp_rangeFunc_one{α:Type}{P:Program}{g:Operand}{ps:Array Tmp}{id d p:Nat}{ty:TypeId}{pos:String}{body:Code}{Q:Exit->Act->World->Prop}{a:Act}{w:World}
  {gf:Nat} {lb:Array Value} (hg:a.eval g=.func (.func gf) #[] lb) (eg:∀args w,(callFunc gf args).run P w=.ok (.enter gf args) w)
  {encs:α->Array Value} {xs:List α} {KS:Nat->Prop} {w0:World} (hZ:∀k,KS k->k<w.heap.size) (hseq:GivesAllK Fence.wide 4 P gf lb encs xs KS w0) (hb0:Below w0.heap.size w0 w) (hps:∀x,(encs x).size=ps.size)
  (I:List α->World->Prop) (hI:OwnFrom w.heap.size I) (h0:I [] w)
  (hbody:∀(l:Nat) (pre:List α) (x:α) (W:World),I pre W->pre++[x]<+:xs->body.wpIn (Fence.wide.inRound l) 3 P (goesOnK w.heap.size KS I (pre++[x]) W) (roundAct ps a.tmps d p (encs x)) W)
  (hdone:∀(D:Nat) (W:World),w.heap.size<=D->I xs W->W.heap[D]?=some (.deferred (some []))->Q .normal { a with defers:={ target:=.collected D,args:= #[] }::a.defers } W):
  (Code.rangeFunc g ps (Code.region id #[{ dst:=some d,op:=.assign (.tmp p),type:=ty,pos:=pos,after:= #[],guard:=none }] false) body).wp P Q a w:=
 wp_rangeFunc_keep hg eg hZ hseq hb0 hps I hI h0 (fun x=>roundAct ps a.tmps d p (encs x)) (fun l x W K hK=>assign_one hK) hbody hdone
def boxAct(ps:Array Tmp)(tmps:Array Value)(d B:Nat)(vs:Array Value):Act:=
 { tmps:=((ps.zip vs).foldl (fun t (p,v)=>t.setIfInBounds p v) tmps).setIfInBounds d (.pointer (some ⟨B,0,none⟩)),defers:=[] }
theorem wp_rangeFunc_box{α:Type}{P:Program}{g:Operand}{ps:Array Tmp}{d:Nat}{T:TypeId}{assign body:Code}{Q:Exit->Act->World->Prop}{a:Act}{w:World}
  {gf:Nat} {lb:Array Value} (hg:a.eval g=.func (.func gf) #[] lb) (eg:∀args w,(callFunc gf args).run P w=.ok (.enter gf args) w)
  {encs:α->Array Value} {xs:List α} {KS:Nat->Prop} {w0:World} (hZ:∀k,KS k->k<w.heap.size) (hseq:GivesAllK Fence.wide 4 P gf lb encs xs KS w0) (hb0:Below w0.heap.size w0 w) (hps:∀x,(encs x).size=ps.size)
  (C:α->List Value) (hassign:∀(l:Nat) (x:α) (W:World) (K:Act->World->Prop),K (boxAct ps a.tmps d W.heap.size (encs x)) (W.alloc (.cells (C x).toArray T))->
   assign.wpIn (Fence.wide.inRound l) 3 P (Exit.then K (fun _ _ _=>False)) { tmps:=(ps.zip (encs x)).foldl (fun t (p,v)=>t.setIfInBounds p v) a.tmps,defers:=[] } W)
  (I:List α->World->Prop) (hI:OwnFrom w.heap.size I) (h0:I [] w)
  (hbody:∀(l:Nat) (pre:List α) (x:α) (B:Nat) (W:World),I pre W->Blk W B T (C x)->w.heap.size<=B->pre++[x]<+:xs->body.wpIn (Fence.wide.inRound l) 3 P (goesOnK w.heap.size KS I (pre++[x]) W) (boxAct ps a.tmps d B (encs x)) W)
  (hdone:∀(D:Nat) (W:World),w.heap.size<=D->I xs W->W.heap[D]?=some (.deferred (some []))->Q .normal { a with defers:={ target:=.collected D,args:= #[] }::a.defers } W):
  (Code.rangeFunc g ps assign body).wp P Q a w:=by
 refine (wpIn_wide (n:=5)).1 (wpIn_rangeFunc_keepA (F:=Fence.wide) (n:=5) rfl (by decide) hg trivial eg hZ hseq hb0 hps I hI h0
  (fun x a' W=>∃B,a'=boxAct ps a.tmps d B (encs x)∧(∃o:Obj,o.isCells=true∧W.heap[B]?=some o)∧Blk W B T (C x)∧w.heap.size<=B) ?_ ?_ ?_ hdone)
 ·rintro x a' s W W' row ⟨B,ha,ho,hb,hB⟩ hgr hr
  have hne:some B≠row:=fun e=>by
   obtain⟨_,o,ho',hc'⟩:=hr B e.symm;rw[hb.heap] at ho';injection ho' with ho'
   subst ho';simp[Obj.isCells] at hc'
  exact⟨B,ha,⟨_,rfl,(hb.grown hgr hne).heap⟩,hb.grown hgr hne,hB⟩
 ·intro l x W K hsz hK;refine hassign l x W K (hK _ _ (World.grownBy_alloc W _ none) ⟨W.heap.size,rfl,⟨_,rfl,(Blk.new W T (C x)).heap⟩,Blk.new W T (C x),hsz⟩)
 ·rintro l pre x a' W hI' ⟨B,rfl,_,hb,hB⟩ hpre
  exact hbody l pre x B W hI' hb hB hpre
theorem own_blk{β:Type}{B g:Nat}{t:TypeId}(C:β->List Value)(hg:g<B):OwnFrom B (fun s W=>Blk W g t (C s)):=fun s W W' row hs hgr hr=>hs.grown hgr (fun e=>by have:=(hr g e.symm).1;omega)
theorem own_grown{β:Type}{B:Nat}{w:World}(r:Option Nat)(hB:w.heap.size<=B):OwnFrom B (fun(_:β) W=>w.grownBy W r):=fun s W W' row hs hgr hr=>
 ⟨hgr.os.trans hs.os,hgr.tape.trans hs.tape,hgr.output.trans hs.output,Nat.le_trans hs.size hgr.size,fun k hk hne=>(hgr.block k (Nat.lt_of_lt_of_le hk hs.size) (fun e=>by have:=(hr k e.symm).1;omega)).trans (hs.block k hk hne)⟩
theorem keeps_grown{W W':World}{B g:Nat}(h:W.grownBy W' (some g))(hg:g<B):KeepsFrom B W W':=⟨h.size,fun k o hk h0 _=>(h.block k (Array.getElem?_eq_some_iff.1 h0).1 (fun e=>by cases e;omega)).trans h0⟩
end Go.Proofs.YtfdlmpicmkpabaaDoor.Ext
end
