import Derived.Test.YtfdlmpicmkpabaaDoorMLogbookDecodesar
import Derived.Defers
import Derived.Recover
/-
  Texts of this claim, one behind the other: what they prove stands above each.
-/
set_option linter.unusedVariables false
set_option linter.unusedSimpArgs false
section
namespace Go.Proofs.YtfdlmpicmkpabaaDoor.Ext
set_option maxRecDepth 100000
open Go.RowKit Go.Shelf Go.Proofs.YtfdlmpicmkpabaaDoorW.PrintWords Go.Proofs.YtfdlmpicmkpabaaDoorW.PrintLast Go.Proofs.YtfdlmpicmkpabaaDoorW.PrintMore Go.Proofs.YtfdlmpicmkpabaaDoor.PB Go.Proofs.YtfdlmpicmkpabaaDoor.PC
attribute [local go_sem] Oper.semAt_some
abbrev failV:Value:=.iface 96 (.agg #[])
theorem catch_idle(p q:Addr)(w:World):CallsD Tryd.prog 56 #[.pointer (some p),.pointer (some q)] .returning w fun e u' w'=>e=.returned (.tuple #[])∧u'=.returning∧w'=w:=by
 refine callsD_of_wpS Tryd.func56 rfl fun c₀ cs hu=>?_
 apply wpS_seq
 apply wpS_region
 simp[wpOpsS,go_sem,recoverD,hu,Tryd.ntmps56,Exit.thenS];refine wpS_of_wp ?_
 go_wp2
 cases c₀
 simp_all [bodyPostS,results,Tryd.results56]
theorem catch_panic(b0 b1:Nat)(x:List Value)(e0:Value)(older:List PanicEntry)(w:World)(hx:Blk w b0 43 x)(hl:x.length=5)(he:Blk w b1 29 [e0])(hne:b0≠b1):
  CallsD Tryd.prog 56 #[.pointer (some ⟨b0,0,none⟩),.pointer (some ⟨b1,0,none⟩)] (.panicking ({ v:=failV,recovered:=false }::older)) w fun e u' w'=>e=.returned (.tuple #[])∧u'=.panicking ({ v:=failV,recovered:=true }::older)∧Blk w' b0 43 [.int .i64 0,.int .i64 0,.int .i64 0,.int .i64 0,.string ⟨#[]⟩]∧Blk w' b1 29 [.int .i64 350]∧∀B,B<=b0->B<=b1->Below B w w':=by
 refine callsD_of_wpS Tryd.func56 rfl fun c₀ cs hu=>?_
 apply wpS_seq
 apply wpS_region
 simp[wpOpsS,go_sem,recoverD,hu,Tryd.ntmps56,Exit.thenS];have hta:∀W:World,(Instr.typeAssert failV 20 96 true).run Tryd.prog W=.ok (.tuple #[.agg #[],.bool true]) W:=fun _=>by kernel_rfl
 simp only[Array.replicate_succ,Array.replicate_zero,List.push_toArray,List.append_toArray,List.nil_append,List.cons_append,List.setIfInBounds_toArray,List.set_cons_succ,List.set_cons_zero];refine wpS_of_wp ?_
 go_upto_region 7 with (fail)
 have hx1:=hx.alloc (.cells #[] 96);have he1:=he.alloc (.cells #[] 96);have hb1:∀B,B<=b0->Below B w (w.alloc (.cells #[] 96)):=fun B hB=>(Below.refl B w).alloc (by have:=hx.lt;omega) _
 generalize w.alloc (.cells #[] 96)=w1 at*
 have HX:=Lib.hid hx1;have HE:=Lib.hid he1;have HB:=Lib.hid hb1;have HNE:=Lib.hid hne;have hrs:(Tryd.prog.info? 43).map (·.size)=some ([Value.int .i64 0,.int .i64 0,.int .i64 0,.int .i64 0,.string ⟨#[]⟩].length):=by kernel_rfl
 clear hx he hx1 he1 hb1 hne
 go_wp2_with (first |(refine store_all (by rfl) 43 (.tmp 0) (.tmp 11) (by rfl) b0 [.int .i64 0,.int .i64 0,.int .i64 0,.int .i64 0,.string ⟨#[]⟩] (by rfl) (by rfl) _ x HX.out (by rw[hl];rfl) hrs (by simp[Value.oneCell']) ?_;intro W hW hgr hsz;have HW:=Lib.hid hW;have HGR:=Lib.hid hgr;have HE2:=Lib.hid (HE.out.grown hgr (by intro e;injection e with e;exact HNE.out e.symm));have y0:=HE2.out.cell (j:=0) rfl;have yf:=HE2.out.free 0;clear hW hgr hsz) |fail)
 have hn:b0≠b1:=HNE.out;have hfin:Blk (W.setCell ⟨b1,0,none⟩ (.int .i64 350)) b0 43 [.int .i64 0,.int .i64 0,.int .i64 0,.int .i64 0,.string ⟨#[]⟩]:=HW.out.set_other ⟨b1,0,none⟩ hn _;have hfe:=HE2.out.set 0 (.int .i64 350);have hbl:∀B,B<=b0->B<=b1->Below B w (W.setCell ⟨b1,0,none⟩ (.int .i64 350)):=fun B h0 h1=>((HB.out B h0).grown HGR.out (by have:=HX.out.lt;omega) (fun k e=>by injection e with e;omega)).setCell (p:=⟨b1,0,none⟩) h1 _
 cases c₀
 simp_all [bodyPostS,results,Tryd.results56]
theorem mustI_ok(x y:Int)(w:World):Calls Tryd.prog 57 #[.int .i64 x,.int .i64 y,.int .i64 0] w fun e w'=>e=.returned (.tuple #[.int .i64 x,.int .i64 y])∧w'=w:=by
 go_enter Tryd.func57,Tryd.ntmps57
 go_wp2
 go_ret2
 exact⟨rfl,rfl⟩
theorem mustI_bad(x y e:Int)(he:e≠0)(w:World):Calls Tryd.prog 57 #[.int .i64 x,.int .i64 y,.int .i64 e] w fun e w'=>e=.panicked [{ v:=failV,recovered:=false }]∧w'=w:=by
 have e1:(e !=0)=true:=by simpa using he
 go_enter Tryd.func57,Tryd.ntmps57
 go_wp2
 exact⟨rfl,rfl,rfl⟩
theorem mustS_ok(x:ByteArray)(y:Int)(w:World):Calls Tryd.prog 59 #[.string x,.int .i64 y,.int .i64 0] w fun e w'=>e=.returned (.tuple #[.string x,.int .i64 y])∧w'=w:=by
 go_enter Tryd.func59,Tryd.ntmps59
 go_wp2
 go_ret2
 exact⟨rfl,rfl⟩
theorem mustS_bad(x:ByteArray)(y e:Int)(he:e≠0)(w:World):Calls Tryd.prog 59 #[.string x,.int .i64 y,.int .i64 e] w fun e w'=>e=.panicked [{ v:=failV,recovered:=false }]∧w'=w:=by
 have e1:(e !=0)=true:=by simpa using he
 go_enter Tryd.func59,Tryd.ntmps59
 go_wp2
 exact⟨rfl,rfl,rfl⟩
theorem int_walk(s:ByteArray)(hs:s.size<=140737488351232)(at_:Int)(w:World):Calls Tryd.prog 58 #[.string s,.int .i64 at_] w fun e w'=>e=.returned (.tuple #[.int .i64 (WireSpec.dec s at_).1,.int .i64 (WireSpec.dec s at_).2.1,.int .i64 (WireSpec.dec s at_).2.2])∧Below w.heap.size w w':=
 (wire_Int.calls 12 s at_ _ _ _ w (WireSpec.int_is s hs at_ 12 (Nat.le_refl _))).mono fun e w' ⟨he,hd⟩=>⟨he,hd.below⟩
theorem str_walk(s:ByteArray)(at_:Int)(t:ByteArray)(n e0:Int)(h:wire_String.f 12 s at_=some (t,n,e0))(w:World):Calls Tryd.prog 60 #[.string s,.int .i64 at_] w fun e w'=>e=.returned (.tuple #[.string t,.int .i64 n,.int .i64 e0])∧Below w.heap.size w w':=
 (wire_String.calls 12 s at_ t n e0 w h).mono fun e w' ⟨he,hd⟩=>⟨he,hd.below⟩
def rdI(s:ByteArray):Nat->Option (List Int × Int)
 |0=>some ([],0)
 |k+1=>match rdI s k with
  |none=>none
  |some (l,a)=>if (WireSpec.dec s a).2.2=0 then some (l++[(WireSpec.dec s a).1],(WireSpec.dec s a).2.1) else none
def recOf(l:List Int)(t:ByteArray):Rec:=⟨l.getD 0 0,l.getD 1 0,l.getD 2 0,l.getD 3 0,t⟩
def noRec:Rec:=⟨0,0,0,0,⟨#[]⟩⟩
def decF(s:ByteArray):Rec × Int:=match rdI s 4 with
 |none=>(noRec,350)
 |some (l,a)=>match wire_String.f 12 s a with
  |none=>(noRec,350)
  |some (t,n,e)=>if e=0 then (if n<(s.size:Int)∨recB (recOf l t)=false then (noRec,350) else (recOf l t,0)) else (noRec,350)
def recC(l:List Int)(k:Nat):List Value:=(l.map (Value.int .i64))++(List.replicate (4 - k) (Value.int .i64 0)++[.string ⟨#[]⟩])
theorem rdI_len{s:ByteArray}:∀{k:Nat} {l:List Int} {a:Int},rdI s k=some (l,a)->l.length=k
 |0,l,a,h=>by simp[rdI] at h;rw[h.1];rfl
 |k+1,l,a,h=>by
  unfold rdI at h
  split at h
  ·cases h
  ·rename_i l' a' h'
   split at h
   ·injection h with h
    injection h with h1 h2
    rw[<-h1,List.length_append,rdI_len h'];rfl
   ·cases h
theorem rdI_no{s:ByteArray}{k:Nat}(h:rdI s k=none):∀j,rdI s (k+j)=none
 |0=>h
 |j+1=>by rw[show k+(j+1)=(k+j)+1 by omega,rdI,rdI_no h j]
theorem recC_set{l:List Int}{k:Nat}(hl:l.length=k)(hk:k<4)(x:Int):(recC l k).set k (.int .i64 x)=recC (l++[x]) (k+1):=by
 unfold recC;have e:4 - k=(4 - (k+1))+1:=by omega
 rw[List.set_append_right _ _ (by simp;omega),List.length_map,hl,Nat.sub_self,e,List.replicate_succ];simp
theorem recC_get{l:List Int}{k:Nat}(hl:l.length=k)(hk:k<4):(recC l k)[k]?=some (.int .i64 0):=by
 unfold recC;have e:4 - k=(4 - (k+1))+1:=by omega
 rw[List.getElem?_append_right (by simp;omega),List.length_map,hl,Nat.sub_self,e,List.replicate_succ];rfl
theorem recC_four{l:List Int}(hl:l.length=4):recC l 4=[.int .i64 (l.getD 0 0),.int .i64 (l.getD 1 0),.int .i64 (l.getD 2 0),.int .i64 (l.getD 3 0),.string ⟨#[]⟩]:=by
 match l,hl with
 | [a,b,c,d],_=>rfl
set_option maxHeartbeats 4000000 in
theorem decode_walk(s:ByteArray)(hs:s.size<=140737488351232)(w:World):Calls Tryd.prog 21 #[.string s] w fun e w'=>e=.returned (.tuple #[rval (decF s).1,.int .i64 (decF s).2])∧Below w.heap.size w w':=by
 obtain⟨q1,q2,hq⟩:∃q1 q2,decF s=(q1,q2):=⟨_,_,rfl⟩
 rw[hq];have HQ:=Lib.hid hq;have HI:=Lib.hid (fun a W=>int_walk s hs a W);have HSZ:=Lib.hid hs;clear hq hs;have hmf:∀(fn:Fn) (first cap:Array Value) (w:World),(Instr.makeFunc fn first cap).run Tryd.prog w=.ok (.func fn first cap) w:=fun _ _ _ _=>rfl
 go_enter_defers Tryd.func21,Tryd.ntmps21
 go_wp2
 have hx0:Blk ((w.alloc (.cells #[.int .i64 0,.int .i64 0,.int .i64 0,.int .i64 0,.string ⟨#[]⟩] 43)).alloc (.cells #[.int .i64 0] 29)) w.heap.size 43 (recC [] 0):=(Blk.newA w _ _ (recC [] 0) rfl).alloc _;have he0:Blk ((w.alloc (.cells #[.int .i64 0,.int .i64 0,.int .i64 0,.int .i64 0,.string ⟨#[]⟩] 43)).alloc (.cells #[.int .i64 0] 29)) (w.heap.size+1) 29 [.int .i64 0]:=by
  have:=Blk.newA (w.alloc (.cells #[.int .i64 0,.int .i64 0,.int .i64 0,.int .i64 0,.string ⟨#[]⟩] 43)) 29 #[.int .i64 0] [.int .i64 0] rfl
  rwa [World.size_alloc] at this
 have hb0:=((Below.refl w.heap.size w).alloc (Nat.le_refl _) (.cells #[.int .i64 0,.int .i64 0,.int .i64 0,.int .i64 0,.string ⟨#[]⟩] 43)).alloc (by simp) (.cells #[.int .i64 0] 29);generalize (w.alloc (.cells #[.int .i64 0,.int .i64 0,.int .i64 0,.int .i64 0,.string ⟨#[]⟩] 43)).alloc (.cells #[.int .i64 0] 29)=W0 at*
 obtain⟨b,hb⟩:∃b,w.heap.size=b:=⟨_,rfl⟩
 rw[hb] at hx0 he0 hb0 ⊢;have HBE:=Lib.hid hb;clear hb
 go_loopw [13,4] (fun i v wr=>∃(k:Nat) (l:List Int) (a:Int),k<=4∧i=.int .i64 (k:Int)∧v=.int .i64 a∧Hid (rdI s k=some (l,a))∧Hid (Blk wr b 43 (recC l k))∧Hid (Blk wr (b+1) 29 [.int .i64 0])∧Hid (Below b w wr)) (fun i v wr=>4 - (intOf i).toNat)
 case atStart=>exact⟨0,[],0,by omega,rfl,rfl,Lib.hid rfl,Lib.hid hx0,Lib.hid he0,Lib.hid hb0⟩
 case round=>
  clear hx0 he0 hb0;obtain⟨k,l,a,hk,rfl,rfl,HR,HX,HE,HB⟩:=hrel
  by_cases hlt:k<4
  ·have hki:(k:Int)<4:=by omega
   have hix:∀W,(Instr.index 98 (.agg #[.pointer (some ⟨b,0,none⟩),.pointer (some ⟨b,1,none⟩),.pointer (some ⟨b,2,none⟩),.pointer (some ⟨b,3,none⟩)]) (.int .i64 (k:Int))).run Tryd.prog W=.ok (.pointer (some ⟨b,k,none⟩)) W:=fun W=>
    run_index_agg Tryd.underlying98 Tryd.sizeOf97 Tryd.isAgg97 hlt (by rcases (show k=0∨k=1∨k=2∨k=3 by omega) with rfl |rfl |rfl |rfl<;>rfl) W
   obtain⟨x,n,e,hd⟩:∃x n e,WireSpec.dec s a=(x,n,e):=⟨_,_,_,rfl⟩
   have HIa:=HI.out a;rw[hd] at HIa;have HIA:=Lib.hid HIa;have HLT:=Lib.hid hlt;have HD:=Lib.hid hd;clear HIa hd hlt
   by_cases he:e=0
   ·subst he;have hlen:=rdI_len HR.out;have HRL:=Lib.hid (And.intro hlen HLT.out);clear hlen
    go_upto_region 6 with (fail)
    go_wp2_with (first |(go_at_call 58;(with_reducible refine (HIA.out _).mono ?_);rintro e w2 ⟨rfl,hb2⟩) |fail)
    have HX2:=Lib.hid (HX.out.belowS hb2);have HE2:=Lib.hid (HE.out.belowS hb2);have HB2:=Lib.hid (Below.trans HB.out (hb2.mono (by have:=HB.out.size;have:=HBE.out;omega)));have c0:=HX2.out.cell (recC_get HRL.out.1 HRL.out.2);have f0:=HX2.out.free k;clear hb2;refine (mustI_ok x n _).mono ?_
    rintro e w3 ⟨rfl,h3⟩
    obtain rfl:=h3.symm
    go_wp2
    go_roundw
    case rel=>
     refine⟨k+1,l++[x],n,HLT.out,by go_num,rfl,Lib.hid ?_,Lib.hid ?_,Lib.hid (HE2.out.set_other ⟨b,k,none⟩ (by show b+1≠b;omega) _),Lib.hid (HB2.out.setCell (p:=⟨b,k,none⟩) (Nat.le_refl _) _)⟩
     ·rw[rdI,HR.out];simp only;rw[HD.out,if_pos rfl]
     ·rw[<-recC_set HRL.out.1 HLT.out];exact HX2.out.set k _
    case measure=>simp[intOf];have:=HLT.out;omega
   ·go_wp2_with (first |(go_at_call 58;(with_reducible refine (HIA.out _).mono ?_);rintro e w2 ⟨rfl,hb2⟩) |(go_at_call 57;(with_reducible refine (mustI_bad x n e he _).mono ?_);rintro e w3 ⟨rfl,h3⟩;obtain rfl:=h3.symm) |fail)
    have hq:(q1,q2)=(noRec,(350:Int)):=by
     rw[<-HQ.out];have hno:rdI s (k+1)=none:=by
      rw[rdI,HR.out];simp only;rw[HD.out,if_neg he]
     have h4:=rdI_no hno (3 - k);rw[show k+1+(3 - k)=4 by have:=HLT.out;omega] at h4;unfold decF;rw[h4]
    injection hq with e1 e2
    subst e1 e2;have HB2:=Lib.hid (Below.trans HB.out (hb2.mono (by have:=HB.out.size;have:=HBE.out;omega)));refine leaves_cons (f:=56) (args:= #[.pointer (some ⟨b,0,none⟩),.pointer (some ⟨b+1,0,none⟩)]) (by simp) (by simp[go_sem]) ?_;refine (catch_panic b (b+1) (recC l k) (.int .i64 0) [] _ (HX.out.belowS hb2) (by have:=rdI_len HR.out;unfold recC;simp;omega) (HE.out.belowS hb2) (by omega)).mono ?_
    rintro e u' w'' ⟨rfl,rfl,hx,he',hb⟩
    have y0:=hx.cell (j:=0) rfl;have y1:=hx.cell (j:=1) rfl;have y2:=hx.cell (j:=2) rfl;have y3:=hx.cell (j:=3) rfl;have y4:=hx.cell (j:=4) rfl;have z0:=he'.cell (j:=0) rfl;have hbb:Below w.heap.size w w'':=by
     rw[HBE.out];exact Below.trans HB2.out (hb b (Nat.le_refl _) (by omega))
    simp[Leaves,settle,results,Tryd.results21,go_sem,y0,y1,y2,y3,y4,z0];exact⟨⟨rfl,rfl,rfl,rfl,rfl⟩,hbb⟩
  ·obtain rfl:k=4:=by omega
   have hl4:=rdI_len HR.out;obtain⟨⟨t,n,e0⟩,hst⟩:=WireSpec.string_some s HSZ.out a 12 (Nat.le_refl _);have HSW:=Lib.hid (fun W=>str_walk s a t n e0 hst W);have HST:=Lib.hid hst;have hx4:=HX.out;rw[recC_four hl4] at hx4;have HX4:=Lib.hid hx4;have HL4:=Lib.hid hl4;clear hst hx4 hl4 hlt
   by_cases he:e0=0
   ·subst he
    go_upto_region 9 with (first |(go_at_call 60;(with_reducible refine (HSW.out _).mono ?_);rintro e w2 ⟨rfl,hb2⟩;have HX2:=Lib.hid (HX4.out.belowS hb2);have HE2:=Lib.hid (HE.out.belowS hb2);have HB2:=Lib.hid (Below.trans HB.out (hb2.mono (by have:=HB.out.size;have:=HBE.out;omega)));have c4:=HX2.out.cell (j:=4) rfl;have f4:=HX2.out.free 4;clear hb2) |(go_at_call 59;(with_reducible refine (mustS_ok t n _).mono ?_);rintro e w3 ⟨rfl,h3⟩;obtain rfl:=h3.symm) |fail)
    have hX3:Blk (w2.setCell ⟨b,4,none⟩ (.string t)) b 43 (rcells (recOf l t)):=HX2.out.set 4 (.string t);have hE3:=HE2.out.set_other ⟨b,4,none⟩ (by show b+1≠b;omega) (.string t);have hB3:=HB2.out.setCell (p:=⟨b,4,none⟩) (Nat.le_refl _) (.string t);generalize w2.setCell ⟨b,4,none⟩ (.string t)=w3 at*
    have HX3:=Lib.hid hX3;have HE3:=Lib.hid hE3;have HB3:=Lib.hid hB3;clear hX3 hE3 hB3 HX2 HE2 HB2 c4 f4 w2;have hdec:decF s=if n<(s.size:Int)∨recB (recOf l t)=false then (noRec,350) else (recOf l t,0):=by
     unfold decF;rw[HR.out];simp only;rw[HST.out];simp only;rw[if_pos trivial]
    by_cases hn:n<(s.size:Int)
    ·have hq:(q1,q2)=(noRec,(350:Int)):=by rw[<-HQ.out,hdec,if_pos (.inl hn)]
     injection hq with e1 e2
     subst e1 e2;have d1:decide (n<(s.size:Int))=true:=decide_eq_true hn;clear hdec hn
     go_wp2
     refine leaves_cons (f:=56) (args:= #[.pointer (some ⟨b,0,none⟩),.pointer (some ⟨b+1,0,none⟩)]) (by simp) (by simp[go_sem]) ?_;refine (catch_panic b (b+1) _ (.int .i64 0) [] _ HX3.out rfl HE3.out (by omega)).mono ?_
     rintro e u' w'' ⟨rfl,rfl,hx,he',hb⟩
     have y0:=hx.cell (j:=0) rfl;have y1:=hx.cell (j:=1) rfl;have y2:=hx.cell (j:=2) rfl;have y3:=hx.cell (j:=3) rfl;have y4:=hx.cell (j:=4) rfl;have z0:=he'.cell (j:=0) rfl;have hbb:Below w.heap.size w w'':=by
      rw[HBE.out];exact Below.trans HB3.out (hb b (Nat.le_refl _) (by omega))
     simp[Leaves,settle,results,Tryd.results21,go_sem,y0,y1,y2,y3,y4,z0];exact⟨⟨rfl,rfl,rfl,rfl,rfl⟩,hbb⟩
    ·have d1:decide (n<(s.size:Int))=false:=decide_eq_false hn;have x0:=HX3.out.cell (j:=0) rfl;have x1:=HX3.out.cell (j:=1) rfl;have x2:=HX3.out.cell (j:=2) rfl;have x3:=HX3.out.cell (j:=3) rfl;have x4:=HX3.out.cell (j:=4) rfl
     cases hv:recB (recOf l t) with
     |false=>
      have hq:(q1,q2)=(noRec,(350:Int)):=by rw[<-HQ.out,hdec,if_pos (.inr hv)]
      injection hq with e1 e2
      subst e1 e2;have HV:=Lib.hid hv;clear hdec hn hv
      go_wp2_with (first |(go_at_call 51;(with_reducible refine (isRecord_walk (recOf l t) _).mono ?_);rintro e w4 ⟨rfl,hb4⟩;rw[HV.out]) |fail)
      have HB4:=Lib.hid (Below.trans HB3.out (hb4.mono (by have:=HB3.out.size;have:=HBE.out;omega)));refine leaves_cons (f:=56) (args:= #[.pointer (some ⟨b,0,none⟩),.pointer (some ⟨b+1,0,none⟩)]) (by simp) (by simp[go_sem]) ?_;refine (catch_panic b (b+1) _ (.int .i64 0) [] _ (HX3.out.belowS hb4) rfl (HE3.out.belowS hb4) (by omega)).mono ?_
      rintro e u' w'' ⟨rfl,rfl,hx,he',hb⟩
      have y0:=hx.cell (j:=0) rfl;have y1:=hx.cell (j:=1) rfl;have y2:=hx.cell (j:=2) rfl;have y3:=hx.cell (j:=3) rfl;have y4:=hx.cell (j:=4) rfl;have z0:=he'.cell (j:=0) rfl;have hbb:Below w.heap.size w w'':=by
       rw[HBE.out];exact Below.trans HB4.out (hb b (Nat.le_refl _) (by omega))
      simp[Leaves,settle,results,Tryd.results21,go_sem,y0,y1,y2,y3,y4,z0];exact⟨⟨rfl,rfl,rfl,rfl,rfl⟩,hbb⟩
     |true=>
      have hq:(q1,q2)=(recOf l t,(0:Int)):=by rw[<-HQ.out,hdec,if_neg (by rw[hv];simp;omega)]
      injection hq with e1 e2
      subst e1 e2;have HV:=Lib.hid hv;clear hdec hn hv
      go_upto_region 11 with (first |(go_at_call 51;(with_reducible refine (isRecord_walk (recOf l t) _).mono ?_);rintro e w4 ⟨rfl,hb4⟩;rw[HV.out]) |fail)
      have HX4:=Lib.hid (HX3.out.belowS hb4);have HE4:=Lib.hid (HE3.out.belowS hb4);have HB4:=Lib.hid (Below.trans HB3.out (hb4.mono (by have:=HB3.out.size;have:=HBE.out;omega)));clear hb4 x0 x1 x2 x3 x4;have x0:=HX4.out.cell (j:=0) rfl;have x1:=HX4.out.cell (j:=1) rfl;have x2:=HX4.out.cell (j:=2) rfl;have x3:=HX4.out.cell (j:=3) rfl;have x4:=HX4.out.cell (j:=4) rfl;have hrs:(Tryd.prog.info? 43).map (·.size)=some ((rcells (recOf l t)).length):=by kernel_rfl
      go_wp2_with (first |(refine store_all (by rfl) 43 (.tmp 2) (.tmp 51) (by rfl) b (rcells (recOf l t)) (by rfl) (by rfl) _ (rcells (recOf l t)) HX4.out rfl hrs (by simp[Value.oneCell']) ?_;intro W hW hgr hsz;have HW:=Lib.hid hW;have HGR:=Lib.hid hgr;have HE5:=Lib.hid (HE4.out.grown hgr (by intro e;injection e with e;omega));have y0:=HE5.out.cell (j:=0) rfl;have yf:=HE5.out.free 0;clear hW hgr hsz) |fail)
      have hx6:Blk (W.setCell ⟨b+1,0,none⟩ (.int .i64 0)) b 43 (rcells (recOf l t)):=HW.out.set_other ⟨b+1,0,none⟩ (by show b≠b+1;omega) _;have he6:Blk (W.setCell ⟨b+1,0,none⟩ (.int .i64 0)) (b+1) 29 [.int .i64 0]:=HE5.out.set 0 (.int .i64 0);have hb6:Below w.heap.size w (W.setCell ⟨b+1,0,none⟩ (.int .i64 0)):=by
       rw[HBE.out];exact (HB4.out.grown HGR.out (by have:=HBE.out;have:=HB4.out.size;omega) (fun k e=>by injection e with e;omega)).setCell (p:=⟨b+1,0,none⟩) (by simp) _
      refine leaves_cons (f:=56) (args:= #[.pointer (some ⟨b,0,none⟩),.pointer (some ⟨b+1,0,none⟩)]) (by simp) (by simp[go_sem]) ?_;refine (catch_idle ⟨b,0,none⟩ ⟨b+1,0,none⟩ _).mono ?_
      rintro e u' w'' ⟨rfl,rfl,rfl⟩
      have z0:=hx6.cell (j:=0) rfl;have z1:=hx6.cell (j:=1) rfl;have z2:=hx6.cell (j:=2) rfl;have z3:=hx6.cell (j:=3) rfl;have z4:=hx6.cell (j:=4) rfl;have z5:=he6.cell (j:=0) rfl;simp only[Leaves];refine⟨_,by simp[results,Tryd.results21,go_sem,z0,z1,z2,z3,z4,z5],rfl,hb6⟩
   ·have hq:(q1,q2)=(noRec,(350:Int)):=by
     rw[<-HQ.out];unfold decF;rw[HR.out];simp only;rw[HST.out];simp only;rw[if_neg he]
    injection hq with e1 e2
    subst e1 e2
    go_wp2_with (first |(go_at_call 60;(with_reducible refine (HSW.out _).mono ?_);rintro e w2 ⟨rfl,hb2⟩) |(go_at_call 59;(with_reducible refine (mustS_bad t n e0 he _).mono ?_);rintro e w3 ⟨rfl,h3⟩;obtain rfl:=h3.symm) |fail)
    have HB2:=Lib.hid (Below.trans HB.out (hb2.mono (by have:=HB.out.size;have:=HBE.out;omega)));refine leaves_cons (f:=56) (args:= #[.pointer (some ⟨b,0,none⟩),.pointer (some ⟨b+1,0,none⟩)]) (by simp) (by simp[go_sem]) ?_;refine (catch_panic b (b+1) _ (.int .i64 0) [] _ (HX4.out.belowS hb2) rfl (HE.out.belowS hb2) (by omega)).mono ?_
    rintro e u' w'' ⟨rfl,rfl,hx,he',hb⟩
    have y0:=hx.cell (j:=0) rfl;have y1:=hx.cell (j:=1) rfl;have y2:=hx.cell (j:=2) rfl;have y3:=hx.cell (j:=3) rfl;have y4:=hx.cell (j:=4) rfl;have z0:=he'.cell (j:=0) rfl;have hbb:Below w.heap.size w w'':=by
     rw[HBE.out];exact Below.trans HB2.out (hb b (Nat.le_refl _) (by omega))
    simp[Leaves,settle,results,Tryd.results21,go_sem,y0,y1,y2,y3,y4,z0];exact⟨⟨rfl,rfl,rfl,rfl,rfl⟩,hbb⟩
end Go.Proofs.YtfdlmpicmkpabaaDoor.Ext
end
