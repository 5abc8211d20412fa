import Derived.Test.YtfdlmpicmkpabaaDoorProg
import Derived.Below
import Derived.Deep.Draws
import Derived.Deep.AppendLies
import Derived.Maps.AppendAt
import Derived.OwnWalk
import Derived.Laws.BytesArg
import Derived.Laws.MakeOwn
import Derived.Laws.OwnMore
import Derived.Deep.OwnRows
import Derived.Tactics
import Derived.Lib.ConvBytes
import Derived.Laws.Slices
import Derived.WalkKit
import Derived.KernelRfl
import Derived.RowKit3
import Derived.Deep.LoopGhost
import Derived.Deep.QuietTactic
import Derived.BigQuiet
import Derived.WideLaws
import Derived.Deep.DeepCutAuto
import Derived.Deep.CutBlock
import Derived.Deep.RegionHeld3
import Derived.Laws.Rows
import Derived.Lib.AppendStr
import Derived.ArgAppend
import Derived.Laws.IdiomCopy
import Derived.OrdersHeld
import Derived.Laws.BitsLemmas
import Derived.RowKit
import Derived.Test.YtfdlmpicmkpabaaDoorMLogbookDecodesaa
import Derived.Test.YtfdlmpicmkpabaaDoorMLogbookDecodesab
import Derived.Deep.Slices
import Derived.OpenShut
import Derived.ChangeArms
import Derived.LoopTactic
import Derived.Laws.NewBlocks
import Derived.Deep.MidRow
import Derived.Lib.Hide
import Derived.IntWalk
/-
  Texts of this claim, one behind the other: what they prove stands above each.
-/
set_option linter.unusedVariables false
set_option linter.unusedSimpArgs false
section
namespace Go.Proofs.YtfdlmpicmkpabaaDoor.Ext
open Go.RowKit Go.Proofs.YtfdlmpicmkpabaaDoorW.PrintWords Go.Proofs.YtfdlmpicmkpabaaDoorW.PrintLast Go.Proofs.YtfdlmpicmkpabaaDoorW.PrintMore
theorem info5:(Tryd.prog.info? 5).map (fun i=>(i.zero,i.size,i.bytes))=some (some (.int .u8 0),1,1):=by kernel_rfl
theorem info43:(Tryd.prog.info? 43).map (fun i=>(i.zero,i.size,i.bytes))=some (some (.agg #[(.int .i64 0),(.int .i64 0),(.int .i64 0),(.int .i64 0),(.string ⟨#[]⟩)]),5,48):=by kernel_rfl
theorem info117:(Tryd.prog.info? 117).map (fun i=>(i.zero,i.size,i.bytes))=some (some (.int .u32 0),1,4):=by kernel_rfl
structure S43 where
 f0:Int
 f1:Int
 f2:Int
 f3:Int
 f4:ByteArray
def z43:S43:=⟨(0:Int),(0:Int),(0:Int),(0:Int),(⟨#[]⟩:ByteArray)⟩
def k43:Kd S43:=Kd.iso (Kd.pair (Kd.int .i64) (Kd.pair (Kd.int .i64) (Kd.pair (Kd.int .i64) (Kd.pair (Kd.int .i64) Kd.string)))) (fun x:S43=>(x.f0,x.f1,x.f2,x.f3,x.f4))
theorem k43_open{w:World}{x:S43}{cs:List Value}(h:k43.K w x cs):cs=[.int .i64 x.f0,.int .i64 x.f1,.int .i64 x.f2,.int .i64 x.f3,.string x.f4]:=by
 obtain⟨_,_,rfl,rfl,⟨_,_,rfl,rfl,⟨_,_,rfl,rfl,⟨_,_,rfl,rfl,rfl⟩⟩⟩⟩:=h;exact rfl
theorem k43_mkM(w:World)(base:Nat)(ok:Nat->Prop)(x:S43):k43.M w base ok x [.int .i64 x.f0,.int .i64 x.f1,.int .i64 x.f2,.int .i64 x.f3,.string x.f4]:=⟨[.int .i64 x.f0],[.int .i64 x.f1,.int .i64 x.f2,.int .i64 x.f3,.string x.f4],rfl,rfl,⟨[.int .i64 x.f1],[.int .i64 x.f2,.int .i64 x.f3,.string x.f4],rfl,rfl,⟨[.int .i64 x.f2],[.int .i64 x.f3,.string x.f4],rfl,rfl,⟨[.int .i64 x.f3],[.string x.f4],rfl,rfl,rfl⟩⟩⟩⟩
def rd_T43(xs:List S43)(i:Int):S43:=xs.getD i.toNat z43
theorem at_T43{w:World}{A:Option Addr}{n:Nat}{xs:List S43}(h:Kd.C k43 w A n xs)(i:Int)(h0:0<=i)(h1:i<n):∃ad,A=some ad∧w.cell? (ad.add (i.toNat*5))=some (.int .i64 (rd_T43 xs i).f0)∧w.cell? ⟨(ad.add (i.toNat*5)).block,(ad.add (i.toNat*5)).off+1,none⟩=some (.int .i64 (rd_T43 xs i).f1)∧w.cell? ⟨(ad.add (i.toNat*5)).block,(ad.add (i.toNat*5)).off+2,none⟩=some (.int .i64 (rd_T43 xs i).f2)∧w.cell? ⟨(ad.add (i.toNat*5)).block,(ad.add (i.toNat*5)).off+3,none⟩=some (.int .i64 (rd_T43 xs i).f3)∧w.cell? ⟨(ad.add (i.toNat*5)).block,(ad.add (i.toNat*5)).off+4,none⟩=some (.string (rd_T43 xs i).f4):=by
 obtain⟨ad,c,e,_,hK,hc0⟩:=Kd.C_get h z43 i h0 h1;have hc:∀j u,c[j]?=some u->w.cell? (ad.add (i.toNat*5+j))=some u:=hc0
 obtain rfl:=k43_open hK;exact⟨ad,e,hc 0 _ rfl,by rw[<-add_field _ _ 1 (by omega)];exact hc 1 _ rfl,by rw[<-add_field _ _ 2 (by omega)];exact hc 2 _ rfl,by rw[<-add_field _ _ 3 (by omega)];exact hc 3 _ rfl,by rw[<-add_field _ _ 4 (by omega)];exact hc 4 _ rfl⟩
structure S75 where
 f0:Int
 f1:Int
 f2:Int
 f3:Int
 f4:Int
def z75:S75:=⟨(0:Int),(0:Int),(0:Int),(0:Int),(0:Int)⟩
def k75:Kd S75:=Kd.iso (Kd.pair (Kd.int .i64) (Kd.pair (Kd.int .i64) (Kd.pair (Kd.int .i64) (Kd.pair (Kd.int .i64) (Kd.int .i64))))) (fun x:S75=>(x.f0,x.f1,x.f2,x.f3,x.f4))
def rd_T75(xs:List S75)(i:Int):S75:=xs.getD i.toNat z75
theorem u32_signed:IntKind.u32.signed=false:=rfl
theorem u32_max:IntKind.u32.max=4294967295:=rfl
end Go.Proofs.YtfdlmpicmkpabaaDoor.Ext
end
section
namespace Go.Proofs.YtfdlmpicmkpabaaDoor.Ext
set_option maxRecDepth 100000
open Go.RowKit Go.Deep Go.Proofs.YtfdlmpicmkpabaaDoorW.PrintWords
def W64(c:Int):Prop:=(Lit.int .i64 c).wf=true
end Go.Proofs.YtfdlmpicmkpabaaDoor.Ext
end
section
namespace Go.Proofs.YtfdlmpicmkpabaaDoor.Ext
set_option maxRecDepth 100000
open Go.RowKit
theorem iw{x:Int}{q:Nat}(h:x=(q:Int))(h2:q<9223372036854775808):IntKind.i64.wrap x=(q:Int):=by rw[h];exact IntWalk.i64_in _ (by omega)
theorem c_new(W:World)(c:Array Value)(t:TypeId)(j n:Nat)(v:Value)(h:c[j]?=some v)(hn:W.heap.size=n):(W.alloc (.cells c t)).cell? ⟨n,j,none⟩=some v:=by subst hn;rw[World.cell?_alloc_new];exact h
theorem c_old{W:World}{o:Obj}{a:Addr}{v:Value}(h:W.cell? a=some v):(W.alloc o).cell? a=some v:=(World.cell?_alloc_some W a o (by rw[h];rfl)).trans h
theorem c_drewN{W:World}{n:Nat}{a:Addr}{v:Value}(h:W.cell? a=some v):(W.drewN n).cell? a=some v:=h
theorem c_drew{W:World}{a:Addr}{v:Value}(h:W.cell? a=some v):W.drew.cell? a=some v:=h
theorem off_set{W:World}{b j i:Nat}{v x:Value}(hne:j≠i)(h:W.cell? ⟨b,j,none⟩=some x):(W.setCell ⟨b,i,none⟩ v).cell? ⟨b,j,none⟩=some x:=(World.cell?_setCell_other _ _ _ _ (by intro c;injection c with _ c2 _;exact hne c2.symm)).trans h
theorem far_set{W:World}{a b:Addr}{v x:Value}(h:a.block≠b.block)(hc:W.cell? a=some x):(W.setCell b v).cell? a=some x:=by
 rw[<-hc];exact World.cell?_setCell_other _ _ _ _ (fun e=>h (by rw[e]))
theorem below_dN{B:Nat}{a w:World}(h:Below B a w)(n:Nat):Below B a (w.drewN n):=⟨h.os,h.tape,h.output,h.size,h.block⟩
def Blk(w:World)(g:Nat)(t:TypeId)(C:List Value):Prop:=w.heap[g]?=some (.cells C.toArray t (0,0))
namespace Blk
variable {w w':World} {g:Nat} {t:TypeId} {C:List Value}
theorem heap(h:Blk w g t C):w.heap[g]?=some (.cells C.toArray t (0,0)):=h
theorem lt(h:Blk w g t C):g<w.heap.size:=(Array.getElem?_eq_some_iff.1 h.heap).1
theorem get(h:Blk w g t C)(j:Nat):w.cell? ⟨g,j,none⟩=C[j]?:=by simp[World.cell?,h.heap]
theorem cell(h:Blk w g t C){j:Nat}{v:Value}(hj:C[j]?=some v):w.cell? ⟨g,j,none⟩=some v:=(h.get j).trans hj
theorem free(h:Blk w g t C)(j:Nat):w.frozen? ⟨g,j,none⟩=false:=by simp[World.frozen?,h.heap]
theorem move(h:Blk w g t C)(e:w'.heap[g]?=w.heap[g]?):Blk w' g t C:=e.trans h
theorem below{B:Nat}(h:Blk w g t C)(hb:Below B w w')(hg:g<B):Blk w' g t C:=h.move (hb.block g hg)
theorem belowS(h:Blk w g t C)(hb:Below w.heap.size w w'):Blk w' g t C:=h.below hb h.lt
theorem alloc(h:Blk w g t C)(o:Obj):Blk (w.alloc o) g t C:=h.move (Below.heap_alloc _ _ _ h.lt)
theorem drewN(h:Blk w g t C)(n:Nat):Blk (w.drewN n) g t C:=h
theorem drew(h:Blk w g t C):Blk w.drew g t C:=h
theorem new(w:World)(t:TypeId)(C:List Value):Blk (w.alloc (.cells C.toArray t)) w.heap.size t C:=by
 show (w.heap.push _)[w.heap.size]?=_
 rw[Array.getElem?_push_size]
theorem newA(w:World)(t:TypeId)(c:Array Value)(C:List Value)(h:c=C.toArray):Blk (w.alloc (.cells c t)) w.heap.size t C:=by subst h;exact new w t C
theorem set(h:Blk w g t C)(j:Nat)(v:Value):Blk (w.setCell ⟨g,j,none⟩ v) g t (C.set j v):=by
 have hl:=h.lt;have hh:=h.heap;unfold Blk World.setCell;rw[Array.getElem?_eq_getElem hl] at hh;simp only[Array.getElem?_modify,if_true,Array.getElem?_eq_getElem hl];rw[Option.some.injEq] at hh;rw[hh];simp
theorem set_other(h:Blk w g t C)(a:Addr)(hne:g≠a.block)(v:Value):Blk (w.setCell a v) g t C:=h.move (Below.heap_setCell _ _ _ _ hne)
theorem range(h:Blk w g t C):w.rangeAt g 0 C:=fun j v hv=>by rw[Nat.zero_add];exact h.cell hv
theorem there(h:Blk w g t C):w.there g 0 C.length:=fun j hj=>by
 rw[Nat.zero_add];exact⟨by rw[h.get,List.getElem?_eq_getElem hj];rfl,h.free j⟩
theorem setCells(C:List Value):∀(vs:List Value) (o:Nat) (w:World),Blk w g t C->(∀(j:Nat) (v:Value),vs[j]?=some v->C[o+j]?=some v)->Blk (w.setCells g o vs) g t C:=by
 intro vs
 induction vs with
 |nil=>intro o w h _;exact h
 |cons v vs ih=>
  intro o w h hv;have h1:=h.set o v;have h0:C[o]?=some v:=hv 0 v rfl;obtain⟨hlt,he⟩:=List.getElem?_eq_some_iff.1 h0;rw[<-he,List.set_getElem_self] at h1;rw[he] at h1;exact ih (o+1) _ h1 (fun j u hj=>by have:=hv (j+1) u hj;rw[show o+1+j=o+(j+1) by omega];exact this)
theorem setSame(h:Blk w g t C):Blk (w.setCells g 0 C) g t C:=setCells C C 0 w h (fun j v hv=>by rw[Nat.zero_add];exact hv)
end Blk
theorem below_setCells{B:Nat}{a:World}{b:Nat}(hB:B<=b):∀(vs:List Value) (o:Nat) (w:World),Below B a w->Below B a (w.setCells b o vs):=by
 intro vs
 induction vs with
 |nil=>intro o w h;exact h
 |cons v vs ih=>intro o w h;exact ih (o+1) _ (h.setCell (p:=⟨b,o,none⟩) hB v)
theorem size_setCells{b:Nat}:∀(vs:List Value) (o:Nat) (w:World),(w.setCells b o vs).heap.size=w.heap.size:=by
 intro vs
 induction vs with
 |nil=>intro o w;rfl
 |cons v vs ih=>intro o w;rw[World.setCells,ih];simp[World.setCell]
theorem run_index_agg{P:Program}{t e:TypeId}{n:Nat}{cs:Array Value}{k:Nat}{v:Value}(hu:P.underlying t=some (.array n e))(hi:∀w,(sizeOf e).run P w=.ok 1 w)(hs:∀w,(isAgg e).run P w=.ok false w)(hk:k<n)(hv:cs[k]?=some v)(w:World):(Instr.index t (.agg cs) (.int .i64 (k:Int))).run P w=.ok v w:=by
 have hn:(0:Int)<=(k:Int)∧(k:Int)<(n:Int):=by omega
 simp[Instr.index,run_underlying hu,asIntOf,hn,go_sem,hi,hs,part,hk,hv,Result.andThen]
theorem grown_setCells{b:Nat}:∀(vs:List Value) (o:Nat) (w:World),w.grownBy (w.setCells b o vs) (some b):=by
 intro vs
 induction vs with
 |nil=>intro o w;exact⟨rfl,rfl,rfl,Nat.le_refl _,fun _ _ _=>rfl⟩
 |cons v vs ih=>
  intro o w;have h:=ih (o+1) (w.setCell ⟨b,o,none⟩ v);have hz:(w.setCell ⟨b,o,none⟩ v).heap.size=w.heap.size:=by simp[World.setCell]
  refine⟨h.os,h.tape,h.output,by have:=h.size;rw[hz] at this;exact this,fun k hk hne=>?_⟩;rw[World.setCells,h.block k (by rw[hz];exact hk) hne];exact Below.heap_setCell _ _ _ _ (fun e=>hne (by rw[e]))
theorem Blk.fill{g:Nat}{t:TypeId}:∀(vs D P:List Value) (w:World),Blk w g t (P++D)->D.length=vs.length->Blk (w.setCells g P.length vs) g t (P++vs):=by
 intro vs
 induction vs with
 |nil=>
  intro D P w h hl;have hD:D=[]:=List.eq_nil_of_length_eq_zero (by simpa using hl);subst hD;exact h
 |cons v vs ih=>
  intro D P w h hl
  cases D with
  |nil=>simp at hl
  |cons d D=>
   have h1:=h.set P.length v;rw[List.set_append_right _ _ (Nat.le_refl _),Nat.sub_self,List.set_cons_zero] at h1;have h2:=ih D (P++[v]) (w.setCell ⟨g,P.length,none⟩ v) (by simpa using h1) (by simpa using hl)
   simpa [World.setCells] using h2
theorem store_all{P:Program}{w:World}{ops:Array Oper}{rest:List Oper}{op:Oper}{a:Act}{Q:Exit->Act->World->Prop}(hgd:op.guard=none)(ty:TypeId)(x y:Operand)(ho:op.op=.store ty x y)
  (g:Nat) (C:List Value) (hx:a.eval x=.pointer (some ⟨g,0,none⟩)) (hy:a.eval y=.agg C.toArray) (t:TypeId) (D:List Value) (hD:Blk w g t D) (hl:D.length=C.length) (hi:(P.info? ty).map (·.size)=some C.length) (h1:C.toArray.all (·.oneCell')=true)
  (h:∀W,Blk W g t C->w.grownBy W (some g)->W.heap.size=w.heap.size->wpList P ops Q rest (a.put op.dst undef) W):wpList P ops Q (op::rest) a w:=by
 refine wpList_store_mid hgd ty x y ho g 0 C.toArray hx hy (by have:=hD.there;rw[hl] at this;simpa using this) (by simpa using hi) h1 ?_;exact h _ (by have:=Blk.fill C D [] w hD hl;simpa using this) (grown_setCells _ _ _) (size_setCells _ _ _)
theorem load_all{P:Program}{w:World}{ops:Array Oper}{rest:List Oper}{op:Oper}{a:Act}{Q:Exit->Act->World->Prop}(hgd:op.guard=none)(ty:TypeId)(x:Operand)(ho:op.op=.load ty x)
  (g:Nat) (hx:a.eval x=.pointer (some ⟨g,0,none⟩)) (C:List Value) (hC:w.rangeAt g 0 C) (d:TypeDesc) (hu:P.underlying ty=some d) (hd:d.isRow=true) (hi:(P.info? ty).map (·.size)=some C.length)
  (h:wpList P ops Q rest (a.put op.dst (.agg C.toArray)) w):wpList P ops Q (op::rest) a w:=
 wpList_load_mid hgd ty x ho g 0 hx C d hC hu hd hi h
theorem grown_below{w w':World}{g:Nat}(h:w.grownBy w' (some g)){B:Nat}{a:World}(hb:Below B a w)(hB:B<=g)(hs:B<=w.heap.size):Below B a w':=hb.grown h hs (fun k e=>by cases e;exact hB)
theorem below_grown{w w':World}{B:Nat}(h:Below w.heap.size w w')(r:Option Nat):w.grownBy w' r:=⟨h.os,h.tape,h.output,h.size,fun k hk _=>h.block k hk⟩
theorem grown_trans{a b c:World}{r:Option Nat}(h:a.grownBy b r)(k:b.grownBy c r):a.grownBy c r:=⟨k.os.trans h.os,k.tape.trans h.tape,k.output.trans h.output,Nat.le_trans h.size k.size,fun i hi hr=>(k.block i (Nat.lt_of_lt_of_le hi h.size) hr).trans (h.block i hi hr)⟩
theorem Blk.grown{w w':World}{g:Nat}{t:TypeId}{C:List Value}{r:Option Nat}(h:Blk w g t C)(hg:w.grownBy w' r)(hne:some g≠r):Blk w' g t C:=h.move (hg.block g h.lt hne)
def nums(k:IntKind)(l:List Nat):List Value:=l.map fun x:Nat=>Value.int k (x:Int)
theorem nums_len(k:IntKind)(l:List Nat):(nums k l).length=l.length:=by simp[nums]
theorem nums_get{k:IntKind}{l:List Nat}{j:Nat}(hj:j<l.length):(nums k l)[j]?=some (.int k ((l.getD j 0:Nat):Int)):=by simp[nums,List.getD_eq_getElem?_getD,hj]
theorem nums_set(k:IntKind)(l:List Nat)(j x:Nat):(nums k l).set j (.int k (x:Int))=nums k (l.set j x):=by simp[nums,List.map_set]
theorem nums_one(k:IntKind)(l:List Nat):(nums k l).toArray.all (·.oneCell')=true:=by
 simp only[nums,List.all_toArray,List.all_map];exact List.all_eq_true.2 (fun x _=>rfl)
end Go.Proofs.YtfdlmpicmkpabaaDoor.Ext
end
