import Derived.Test.YtfdlmpicmkpabaaDoorMLogbookDecodesba
import Derived.Test.YtfdlmpicmkpabaaDoorMLogbookDecodesae
import Derived.Laws.BytesArg
import Derived.Lib.ConvBytes
/-
  Texts of this claim, one behind the other: what they prove stands above each.
-/
set_option linter.unusedVariables false
set_option linter.unusedSimpArgs false
section
namespace Go.Proofs.YtfdlmpicmkpabaaDoor.Ext
set_option maxRecDepth 100000
open Go.RowKit Go.Proofs.YtfdlmpicmkpabaaDoorW.PrintWords Go.Proofs.YtfdlmpicmkpabaaDoorW.PrintLast Go.Proofs.YtfdlmpicmkpabaaDoorW.PrintMore
def part(l:List Nat)(m:Nat):List Nat:=l.take m++List.replicate (l.length - m) 0
theorem part_len(l:List Nat)(m:Nat)(h:m<=l.length):(part l m).length=l.length:=by simp[part];omega
theorem part_set(l:List Nat)(m:Nat)(h:m<l.length):(part l m).set m (l.getD m 0)=part l (m+1):=by
 unfold part;rw[List.set_append_right _ _ (by simp;omega),take_snoc' h,show l.length - m=(l.length - (m+1))+1 by omega,List.replicate_succ];rw[show m - (l.take m).length=0 by simp;omega,List.set_cons_zero];simp
theorem part_all(l:List Nat):part l l.length=l:=by simp[part]
theorem out_len(s:Sha.St):(Sha.out s).length=32:=rfl
theorem out_at(s:Sha.St)(hs:Bd s)(i j:Nat)(hi:i<8)(hj:j<4):(Sha.out s).getD (4*i+j) 0=((lst s).getD i 0 / 2 ^ (24 - 8*j))%256:=by
 obtain⟨h1,h2,h3,h4,h5,h6,h7,h8⟩:=hs;have hi':i=0∨i=1∨i=2∨i=3∨i=4∨i=5∨i=6∨i=7:=by omega
 have hj':j=0∨j=1∨j=2∨j=3:=by omega
 rcases hi' with rfl |rfl |rfl |rfl |rfl |rfl |rfl |rfl<;>rcases hj' with rfl |rfl |rfl |rfl<;>simp[Sha.out,Sha.be,lst,Nat.shiftRight_eq_div_pow]<;>omega
theorem conv_blk{w:World}{g n cap:Nat}{t:TypeId}{l:List Nat}(h:Blk w g t (nums .u8 l))(hln:l.length=n):
  Go.Sem.run Tryd.prog (Go.convert 48 9 (.slice (some ⟨g,0,none⟩) n cap)) w=.ok (.string (str l)) w:=by
 have:=run_convert_bytes_arg (P:=Tryd.prog) (w:=w) 48 5 Tryd.underlying48 Tryd.underlying5 g 0 n cap (l.map fun x:Nat=>(x:Int)) (by simpa using hln) (fun i hi=>by
  rw[Nat.zero_add,h.cell (nums_get (by omega))];simp[List.getD_eq_getElem?_getD,List.getElem?_eq_getElem (show i<l.length by omega)]) 9 Tryd.underlying9
 have e:strOfNums (l.map fun x:Nat=>(x:Int))=str l:=by
  unfold strOfNums str;rw[List.map_map];rfl
 rw[<-e];exact this
set_option maxRecDepth 100000 in
set_option maxHeartbeats 1000000 in
theorem digest_walk(s:Sha.St)(hs:Bd s)(w:World):
  Calls Tryd.prog 96 #[.agg (nums .u32 (lst s)).toArray] w fun e w'=>e=.returned (.string (str (Sha.out s)))∧Below w.heap.size w w':=by
 obtain⟨C,hC⟩:∃C,nums .u32 (lst s)=C:=⟨_,rfl⟩
 have hCg:∀k:Nat,k<8->C.toArray[k]?=some (.int .u32 (((lst s).getD k 0:Nat):Int)):=fun k hk=>by rw[<-hC];simpa using nums_get (k:=.u32) (l:=lst s) hk
 have HC:=Lib.hid (And.intro hC hCg);have hc8:C=[.int .u32 s.a,.int .u32 s.b,.int .u32 s.c,.int .u32 s.d,.int .u32 s.e,.int .u32 s.f,.int .u32 s.g,.int .u32 s.h]:=by rw[<-hC];rfl
 rw[hC];clear hC hCg;subst hc8
 go_enter Tryd.func96,Tryd.ntmps96
 go_wp2
 have hsl:=out_len s;have hout:Blk ((w.alloc (.cells #[.int .u32 s.a,.int .u32 s.b,.int .u32 s.c,.int .u32 s.d,.int .u32 s.e,.int .u32 s.f,.int .u32 s.g,.int .u32 s.h] 143)).alloc (.cells (Array.replicate 32 (.int .u8 0)) 163)) (w.heap.size+1) 163 (nums .u8 (part (Sha.out s) 0)):=by
  refine cast_blk (Blk.newA _ _ _ _ rfl) (by simp)
 have hbel:Below w.heap.size w ((w.alloc (.cells #[.int .u32 s.a,.int .u32 s.b,.int .u32 s.c,.int .u32 s.d,.int .u32 s.e,.int .u32 s.f,.int .u32 s.g,.int .u32 s.h] 143)).alloc (.cells (Array.replicate 32 (.int .u8 0)) 163)):=((Below.refl _ _).alloc (Nat.le_refl _) _).alloc (by simp) _;obtain⟨l,hl⟩:∃l,Sha.out s=l:=⟨_,rfl⟩
 have HL:=Lib.hid (And.intro hl hsl);rw[hl] at hout;clear hsl hl
 go_loopw [8] (fun i wr=>∃k:Nat,k<=8∧i=.int .i64 (k:Int)∧Blk wr (w.heap.size+1) 163 (nums .u8 (part l (4*k)))∧Below w.heap.size w wr) (fun i wr=>8 - (intOf i).toNat)
 case atStart=>exact⟨0,by omega,rfl,hout,hbel⟩
 case round=>
  clear hout hbel;obtain⟨k,hk,rfl,hout,hbel⟩:=hrel
  by_cases hlt:k<8
  ·have d1:decide ((k:Int)<8)=true:=decide_eq_true (by omega);obtain⟨x,hx⟩:∃q:Nat,(lst s).getD k 0=q:=⟨_,rfl⟩
   have hix:∀w,(Instr.index 143 (.agg #[.int .u32 s.a,.int .u32 s.b,.int .u32 s.c,.int .u32 s.d,.int .u32 s.e,.int .u32 s.f,.int .u32 s.g,.int .u32 s.h]) (.int .i64 (k:Int))).run Tryd.prog w=.ok (.int .u32 (x:Int)) w:=run_index_agg Tryd.underlying143 (fun _=>by kernel_rfl) (fun _=>by kernel_rfl) hlt (by have:=HC.out.2 k hlt;rw[hx] at this;exact this)
   have HX:=Lib.hid hx;clear hx
   go_wp2
   clear hix;obtain⟨wo,rfl⟩:∃wo:World,wo=wr:=⟨_,rfl⟩
   go_loopw [12] (fun j wr=>∃m:Nat,m<=4∧j=.int .i64 (m:Int)∧Blk wr (w.heap.size+1) 163 (nums .u8 (part l (4*k+m)))∧Below w.heap.size w wr) (fun j wr=>4 - (intOf j).toNat)
   case atStart=>exact⟨0,by omega,rfl,hout,hbel⟩
   case round=>
    clear hout hbel;obtain⟨m,hm,rfl,hout,hbel⟩:=hrel
    by_cases hlt4:m<4
    ·have d2:decide ((m:Int)<4)=true:=decide_eq_true (by omega);obtain⟨r,hr⟩:∃r:Nat,r=24 - 8*m:=⟨_,rfl⟩
     have g1:(24:Int) - 8*(m:Int)=(r:Int):=by omega
     have HQ:=Lib.hid hr;have f0:=hout.free (4*k+m);have c0:wr.cell? ⟨w.heap.size+1,4*k+m,none⟩=some (.int .u8 (((part l (4*k+m)).getD (4*k+m) 0:Nat):Int)):=hout.cell (nums_get (by rw[part_len _ _ (by rw[<-HL.out.1,HL.out.2];omega), <-HL.out.1,HL.out.2];omega));clear hr
     go_wp2
     go_roundw
     case rel=>
      refine⟨m+1,by omega,by go_num,?_,Below.setCell (p:=⟨w.heap.size+1,4*k+m,none⟩) hbel (by simp) _⟩;have h9:=hout.set (4*k+m) (.int .u8 ((l.getD (4*k+m) 0:Nat):Int));rw[nums_set,part_set l _ (by rw[<-HL.out.1,HL.out.2];omega)] at h9;have ha:=out_at s hs k m hlt hlt4;rw[HL.out.1,HX.out, <-HQ.out] at ha;have hb:(x:Int) / 2 ^ r%256=((l.getD (4*k+m) 0:Nat):Int):=by rw[ha];simp
      rw[hb];exact h9
     case measure=>simp[intOf];omega
    ·obtain rfl:m=4:=by omega
     go_wp2
     go_roundw
     case rel=>exact⟨k+1,by omega,by go_num,by rw[show 4*(k+1)=4*k+4 by omega];exact hout,hbel⟩
     case measure=>simp[intOf];omega
  ·obtain rfl:k=8:=by omega
   have hl32:l.length=32:=by rw[<-HL.out.1,HL.out.2]
   have hall:=part_all l;rw[hl32] at hall;rw[show 4*8=32 from rfl,hall] at hout;have hcv:=fun cap=>conv_blk (cap:=cap) hout hl32
   have HL32:=Lib.hid hl32;clear hl32 hall
   go_wp2
   go_ret
   exact⟨by rw[HL.out.1];rfl,hbel⟩
end Go.Proofs.YtfdlmpicmkpabaaDoor.Ext
end
