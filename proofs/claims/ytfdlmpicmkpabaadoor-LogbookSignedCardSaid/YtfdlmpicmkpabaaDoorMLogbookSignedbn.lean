import Derived.Test.YtfdlmpicmkpabaaDoorMLogbookSignedbk
import Derived.Test.YtfdlmpicmkpabaaDoorMLogbookSignedac
import Derived.Test.YtfdlmpicmkpabaaDoorMLogbookSignedbl
import Derived.Test.YtfdlmpicmkpabaaDoorMLogbookSignedbm
import Derived.Test.YtfdlmpicmkpabaaDoorRows
import Derived.Test.YtfdlmpicmkpabaaDoorTie
import Derived.Test.YtfdlmpicmkpabaaDoorCards
import Derived.Test.YtfdlmpicmkpabaaDoorMLogbookSignedap
import Derived.WalkKit
import Derived.ProofKit
import Derived.OpenShut
import Derived.ShutString
import Derived.ChangeOld
import Derived.Below
import Derived.SizedLaws
import Derived.LaidMore
import Derived.Stop.Joined
import Derived.SevenTiedAt
import Derived.SliceStrings
import Derived.Lib.LaidTab
/-
  The law's contract, its pure statement, its row and its card. Conditions: the row's own.
-/
section
namespace Go.Proofs.YtfdlmpicmkpabaaDoor.Pure
set_option maxRecDepth 100000
open Go.RowKit Go.Proofs.YtfdlmpicmkpabaaDoorW.PrintWords Go.Proofs.YtfdlmpicmkpabaaDoorW.PrintLast Go.Proofs.YtfdlmpicmkpabaaDoorW.PrintMore Go.Proofs.YtfdlmpicmkpabaaDoor.Ext Go.Proofs.YtfdlmpicmkpabaaDoor.PL Go.Proofs.YtfdlmpicmkpabaaDoor.LbSpec
set_option maxRecDepth 100000
namespace Sg
theorem j0_eq(k:Nat)(x6:Int)(x17:ByteArray)(x18:ByteArray)(x19:ByteArray)(x21:ByteArray)(x23:ByteArray)(x86:Bool)(x130000:Int)(x130001:List (S43))(x135000:Int)(x135001:List (S43)):Qa.j0 (k+1) x6 x17 x18 x19 x21 x23 x86 x130000 x130001 x135000 x135001=if x86=true then (some false) else ((Qa7.f x130000 (x130001.length:Int) x21).bind fun t144=>((some (([x17,x18]:List ByteArray):List ByteArray)).bind fun y145=>(Qa.l0 k x6 x17 x19 x21 x23 t144 y145 (y145.length:Int) 0 x130000 x130001 x135000 x135001))):=rfl
theorem l0_eq(k:Nat)(x6:Int)(x17:ByteArray)(x19:ByteArray)(x21:ByteArray)(x23:ByteArray)(x25:ByteArray)(x96:List ByteArray)(x97:Int)(x98:Int)(x130000:Int)(x130001:List (S43))(x135000:Int)(x135001:List (S43)):Qa.l0 (k+1) x6 x17 x19 x21 x23 x25 x96 x97 x98 x130000 x130001 x135000 x135001=if x98<x97 then (if 0<=x98 then (if x98<(x96.length:Int) then ((some (([x130000,x135000]:List Int):List Int)).bind fun y149=>(Qa.l1 k x6 x17 x19 x21 x23 x25 (rdOf ByteArray.empty x96 x98) x96 x97 x98 y149 (y149.length:Int) 0 x130000 x130001 x135000 x135001)) else (none)) else (none)) else (some true):=rfl
theorem l1_eq(k:Nat)(x6:Int)(x17:ByteArray)(x19:ByteArray)(x21:ByteArray)(x23:ByteArray)(x25:ByteArray)(x27:ByteArray)(x96:List ByteArray)(x97:Int)(x98:Int)(x106:List Int)(x107:Int)(x108:Int)(x130000:Int)(x130001:List (S43))(x135000:Int)(x135001:List (S43)):Qa.l1 (k+1) x6 x17 x19 x21 x23 x25 x27 x96 x97 x98 x106 x107 x108 x130000 x130001 x135000 x135001=if x108<x107 then (if 0<=x108 then (if x108<(x106.length:Int) then ((Qcd.f x6 61).bind fun t153=>((some (([(x130001.length:Int),t153]:List Int):List Int)).bind fun y154=>(Qa.l2 k x6 x17 x19 x21 x23 x25 x27 (rd x106 x108) x96 x97 x98 x106 x107 x108 y154 (y154.length:Int) 0 x130000 x130001 x135000 x135001))) else (none)) else (none)) else (Qa.l0 k x6 x17 x19 x21 x23 x25 x96 x97 (wrap64 (x98+1)) x130000 x130001 x135000 x135001):=rfl
theorem l2_eq(k:Nat)(x6:Int)(x17:ByteArray)(x19:ByteArray)(x21:ByteArray)(x23:ByteArray)(x25:ByteArray)(x27:ByteArray)(x29:Int)(x96:List ByteArray)(x97:Int)(x98:Int)(x106:List Int)(x107:Int)(x108:Int)(x117:List Int)(x118:Int)(x119:Int)(x130000:Int)(x130001:List (S43))(x135000:Int)(x135001:List (S43)):Qa.l2 (k+1) x6 x17 x19 x21 x23 x25 x27 x29 x96 x97 x98 x106 x107 x108 x117 x118 x119 x130000 x130001 x135000 x135001=if x119<x118 then (if 0<=x119 then (if x119<(x117.length:Int) then ((some (([x21,x23]:List ByteArray):List ByteArray)).bind fun y158=>(Qa.l3 k x6 x17 x19 x21 x23 x25 x27 x29 (rd x117 x119) x96 x97 x98 x106 x107 x108 x117 x118 x119 y158 (y158.length:Int) 0 x130000 x130001 x135000 x135001)) else (none)) else (none)) else (Qa.l1 k x6 x17 x19 x21 x23 x25 x27 x96 x97 x98 x106 x107 (wrap64 (x108+1)) x130000 x130001 x135000 x135001):=rfl
theorem l3_eq(k:Nat)(x6:Int)(x17:ByteArray)(x19:ByteArray)(x21:ByteArray)(x23:ByteArray)(x25:ByteArray)(x27:ByteArray)(x29:Int)(x31:Int)(x96:List ByteArray)(x97:Int)(x98:Int)(x106:List Int)(x107:Int)(x108:Int)(x117:List Int)(x118:Int)(x119:Int)(x125:List ByteArray)(x126:Int)(x127:Int)(x130000:Int)(x130001:List (S43))(x135000:Int)(x135001:List (S43)):Qa.l3 (k+1) x6 x17 x19 x21 x23 x25 x27 x29 x31 x96 x97 x98 x106 x107 x108 x117 x118 x119 x125 x126 x127 x130000 x130001 x135000 x135001=if x127<x126 then (if 0<=x127 then (if x127<(x125.length:Int) then (if x27.toList=x17.toList then (if x29=x130000 then (if x31=(x130001.length:Int) then (if (rdOf ByteArray.empty x125 x127).toList=x21.toList then (Qa.j5 k x6 x17 x19 x21 x23 x25 x27 x29 x31 (rdOf ByteArray.empty x125 x127) x96 x97 x98 x106 x107 x108 x117 x118 x119 x125 x126 x127 true x130000 x130001 x135000 x135001) else ((Qa8.f x27 x29 x31 (rdOf ByteArray.empty x125 x127) x19).bind fun t162=>(Qa.j5 k x6 x17 x19 x21 x23 x25 x27 x29 x31 (rdOf ByteArray.empty x125 x127) x96 x97 x98 x106 x107 x108 x117 x118 x119 x125 x126 x127 (!t162) x130000 x130001 x135000 x135001))) else ((Qa8.f x27 x29 x31 (rdOf ByteArray.empty x125 x127) x19).bind fun t163=>(Qa.j5 k x6 x17 x19 x21 x23 x25 x27 x29 x31 (rdOf ByteArray.empty x125 x127) x96 x97 x98 x106 x107 x108 x117 x118 x119 x125 x126 x127 (!t163) x130000 x130001 x135000 x135001))) else ((Qa8.f x27 x29 x31 (rdOf ByteArray.empty x125 x127) x19).bind fun t164=>(Qa.j5 k x6 x17 x19 x21 x23 x25 x27 x29 x31 (rdOf ByteArray.empty x125 x127) x96 x97 x98 x106 x107 x108 x117 x118 x119 x125 x126 x127 (!t164) x130000 x130001 x135000 x135001))) else ((Qa8.f x27 x29 x31 (rdOf ByteArray.empty x125 x127) x19).bind fun t165=>(Qa.j5 k x6 x17 x19 x21 x23 x25 x27 x29 x31 (rdOf ByteArray.empty x125 x127) x96 x97 x98 x106 x107 x108 x117 x118 x119 x125 x126 x127 (!t165) x130000 x130001 x135000 x135001))) else (none)) else (none)) else (Qa.l2 k x6 x17 x19 x21 x23 x25 x27 x29 x96 x97 x98 x106 x107 x108 x117 x118 (wrap64 (x119+1)) x130000 x130001 x135000 x135001):=rfl
theorem j5_eq(k:Nat)(x6:Int)(x17:ByteArray)(x19:ByteArray)(x21:ByteArray)(x23:ByteArray)(x25:ByteArray)(x27:ByteArray)(x29:Int)(x31:Int)(x33:ByteArray)(x96:List ByteArray)(x97:Int)(x98:Int)(x106:List Int)(x107:Int)(x108:Int)(x117:List Int)(x118:Int)(x119:Int)(x125:List ByteArray)(x126:Int)(x127:Int)(x160:Bool)(x130000:Int)(x130001:List (S43))(x135000:Int)(x135001:List (S43)):Qa.j5 (k+1) x6 x17 x19 x21 x23 x25 x27 x29 x31 x33 x96 x97 x98 x106 x107 x108 x117 x118 x119 x125 x126 x127 x160 x130000 x130001 x135000 x135001=if x160=true then (Qa.l3 k x6 x17 x19 x21 x23 x25 x27 x29 x31 x96 x97 x98 x106 x107 x108 x117 x118 x119 x125 x126 (wrap64 (x127+1)) x130000 x130001 x135000 x135001) else ((Qa7.f x29 x31 x33).bind fun t166=>(if 1+x25.size<=9223372036854775807 then (if 1+x17.size<=9223372036854775807 then ((Qay.f x25).bind fun t167=>(if ((⟨#[1]⟩:ByteArray)++x17).size+t167.size<=9223372036854775807 then (if 1+t166.size<=9223372036854775807 then (if 1+x27.size<=9223372036854775807 then ((Qay.f t166).bind fun t171=>(if ((⟨#[1]⟩:ByteArray)++x27).size+t171.size<=9223372036854775807 then ((Qan.f k (([(⟨#[0]⟩:ByteArray)++x25,((⟨#[1]⟩:ByteArray)++x17)++t167]:List ByteArray)) (([(⟨#[0]⟩:ByteArray)++t166,((⟨#[1]⟩:ByteArray)++x27)++t171]:List ByteArray))).bind fun t175=>(if t175=true then (Qa.l3 k x6 x17 x19 x21 x23 x25 x27 x29 x31 x96 x97 x98 x106 x107 x108 x117 x118 x119 x125 x126 (wrap64 (x127+1)) x130000 x130001 x135000 x135001) else (some false))) else (none))) else (none)) else (none)) else (none))) else (none)) else (none))):=rfl
end Sg
theorem lpick_is(c n:Int)(hc:In c)(hn:0<n):Qcd.f c n=some (pkN c n):=by
 unfold Qcd.f pkN
 by_cases h:c<0
 ·have e1:wrap64 (c+1)=c+1:=w64' (by omega) (by omega);have e2:wrap64 (-(c+1))= -(c+1):=w64' (by omega) (by omega);rw[if_pos h,if_pos h,if_neg (by omega),e1,e2,Int.tmod_eq_emod_of_nonneg (by omega)]
 ·rw[if_neg h,if_neg h,if_neg (by omega),Int.tmod_eq_emod_of_nonneg (by omega)]
theorem sig_hit{c k1 r r1:ByteArray}{s st m n:Int}(hc:c.size=32)(hk:k1.size=32)(hne:¬(c=k1∧s=st∧m=n∧r=r1))(ht:tagOf k1 st n r1=tagOf c s m r):
  ∃i j,Hit [(⟨#[0]⟩:ByteArray)++Qbb st n r1,((⟨#[1]⟩:ByteArray)++k1)++dL (Qbb st n r1)] [(⟨#[0]⟩:ByteArray)++Qbb s m r,((⟨#[1]⟩:ByteArray)++c)++dL (Qbb s m r)] i j:=by
 rw[ByteArray.append_assoc,ByteArray.append_assoc]
 by_cases e1:(⟨#[1]⟩:ByteArray)++(k1++dL (Qbb st n r1))=(⟨#[1]⟩:ByteArray)++(c++dL (Qbb s m r))
 ·obtain⟨e2,e3⟩:=app_inj2 (hk.trans hc.symm) (app_inj e1)
  by_cases e4:(⟨#[0]⟩:ByteArray)++Qbb st n r1=(⟨#[0]⟩:ByteArray)++Qbb s m r
  ·obtain⟨h1,h2,h3⟩:=content_inj (app_inj e4);exact absurd ⟨e2.symm,h1.symm,h2.symm,h3.symm⟩ hne
  ·exact⟨0,0,_,_,rfl,rfl,e4,e3⟩
 ·exact⟨1,1,_,_,rfl,rfl,e1,ht⟩
theorem ct_size(s m:Int)(r:ByteArray)(hs:encOk s=true)(hm:encOk m=true):(Qbb s m r).size<=18+r.size:=by
 have h1:=enc_one s hs;have h2:=enc_one m hm;unfold Qbb;rw[ByteArray.size_append,str_size];simp only[encL,List.map_cons,List.map_nil,List.flatten_cons,List.flatten_nil,List.append_nil,List.length_append];omega
theorem okN{n:Int}(h:0<=n∧n<=99):encOk n=true:=by
 unfold encOk;exact decide_eq_true (by omega)
theorem gen_true{c:ByteArray}{s m:Int}{r tg:ByteArray}(h:genF c s m r tg=true):c.size=32∧(0<=s∧s<=99)∧(0<=m∧m<=60)∧r.size=32∧tg=tagOf c s m r:=by
 unfold genF at h;rw[Bool.and_eq_true] at h;obtain⟨h1,h2⟩:=h;have h1:=of_decide_eq_true h1;unfold genC at h1;exact⟨by omega,by omega,by omega,by omega,tl_inj.1 (beq_iff_eq.1 h2)⟩
theorem gen_f{c:ByteArray}{s m:Int}{r tg:ByteArray}(hc:c.size=32)(hr:r.size=32):Qa8.f c s m r tg=some (genF c s m r tg):=if_pos (by omega)
theorem content_f{s m:Int}{r:ByteArray}(hs:0<=s∧s<=99)(hm:0<=m∧m<=99)(hr:r.size=32):Qa7.f s m r=some (Qbb s m r):=if_pos ⟨okN hs,okN hm,by omega⟩
theorem leaf_f{x:ByteArray}(h:x.size<=10000):Qay.f x=some (dL x):=if_pos h
section
variable {a6:Int} {k1 k2 tg r1 r2:ByteArray} {st1 st2:Int} {rs1 rs2:List Rec} {x96:List ByteArray} {x97 x98:Int} {x106:List Int} {x107 x108:Int} {x117:List Int} {x118 x119:Int}
theorem j5_ok(hk1:k1.size=32)(hr1:r1.size=32)(hst:0<=st1∧st1<=99)(hn:rs1.length<=60)(htg:tg=tagOf k1 st1 (rs1.length:Int) r1)
  (c:ByteArray) (s m:Int) (r:ByteArray) (x125:List ByteArray) (x126 x127:Int) (x160:Bool) (hx:x160=true∨(genF c s m r tg=true∧¬(c=k1∧s=st1∧m=(rs1.length:Int)∧r=r1))) (K:Nat) (hK:20<=K)
  (h:∀k',K<=k'->Qa.l3 k' a6 k1 tg r1 r2 (Qbb st1 (rs1.length:Int) r1) c s m x96 x97 x98 x106 x107 x108 x117 x118 x119 x125 x126 (wrap64 (x127+1)) st1 rs1 st2 rs2=some true) (k:Nat) (hk:K+1<=k):
  Qa.j5 k a6 k1 tg r1 r2 (Qbb st1 (rs1.length:Int) r1) c s m r x96 x97 x98 x106 x107 x108 x117 x118 x119 x125 x126 x127 x160 st1 rs1 st2 rs2=some true:=by
 obtain⟨k,rfl⟩:∃q,k=q+1:=⟨k - 1,by omega⟩
 have hK':=h k (by omega);rw[Sg.j5_eq];rcases hx with rfl |⟨hg,hne⟩
 ·rw[if_pos rfl];exact hK'
 ·by_cases hx:x160=true
  ·rw[if_pos hx];exact hK'
  ·obtain⟨g1,g2,g3,g4,g5⟩:=gen_true hg;have z1:=ct_size st1 (rs1.length:Int) r1 (okN hst) (okN (by omega));have z2:=ct_size s m r (okN g2) (okN (by omega));have z0:(⟨#[0]⟩:ByteArray).size=1:=rfl;have z3:(⟨#[1]⟩:ByteArray).size=1:=rfl;have z4:(dL (Qbb st1 (rs1.length:Int) r1)).size=32:=hash_size _;have z5:(dL (Qbb s m r)).size=32:=hash_size _;obtain⟨i,j,hh⟩:=sig_hit (st:=st1) (n:=(rs1.length:Int)) (r1:=r1) g1 hk1 hne (htg.symm.trans g5);have hcol:=collided_is (a:=[(⟨#[0]⟩:ByteArray)++Qbb st1 (rs1.length:Int) r1,((⟨#[1]⟩:ByteArray)++k1)++dL (Qbb st1 (rs1.length:Int) r1)]) (b:=[(⟨#[0]⟩:ByteArray)++Qbb s m r,((⟨#[1]⟩:ByteArray)++c)++dL (Qbb s m r)]) (by simp) (by simp)
    (by intro x hx;simp only[List.mem_cons,List.not_mem_nil,or_false] at hx;rcases hx with rfl |rfl<;>simp only[ByteArray.size_append]<;>omega)
    (by intro x hx;simp only[List.mem_cons,List.not_mem_nil,or_false] at hx;rcases hx with rfl |rfl<;>simp only[ByteArray.size_append]<;>omega) hh k (by simp only[List.length_cons,List.length_nil];omega)
   rw[if_neg hx,content_f g2 (by omega) g4,Option.bind_some,if_pos (by omega),if_pos (by omega),leaf_f (by omega),Option.bind_some,if_pos (by rw[ByteArray.size_append];omega),if_pos (by omega),if_pos (by omega),leaf_f (by omega),Option.bind_some,if_pos (by rw[ByteArray.size_append];omega),hcol,Option.bind_some,if_pos rfl];exact hK'
theorem l3_step(hk1:k1.size=32)(hr1:r1.size=32)(hst:0<=st1∧st1<=99)(hn:rs1.length<=60)(htg:tg=tagOf k1 st1 (rs1.length:Int) r1)
  (c:ByteArray) (hc:c.size=32) (s m:Int) (r:ByteArray) (hr:r.size=32) (x125:List ByteArray) (i:Nat) (hi:x125[i]?=some r) (hl:x125.length<=100) (K:Nat) (hK:20<=K)
  (h:∀k',K<=k'->Qa.l3 k' a6 k1 tg r1 r2 (Qbb st1 (rs1.length:Int) r1) c s m x96 x97 x98 x106 x107 x108 x117 x118 x119 x125 (x125.length:Int) ((i+1:Nat):Int) st1 rs1 st2 rs2=some true) (k:Nat) (hk:K+2<=k):
  Qa.l3 k a6 k1 tg r1 r2 (Qbb st1 (rs1.length:Int) r1) c s m x96 x97 x98 x106 x107 x108 x117 x118 x119 x125 (x125.length:Int) (i:Int) st1 rs1 st2 rs2=some true:=by
 obtain⟨k,rfl⟩:∃q,k=q+1:=⟨k - 1,by omega⟩
 have hil:i<x125.length:=(List.getElem?_eq_some_iff.1 hi).1;have c1:(i:Int)<(x125.length:Int):=by omega
 have hw:=wn i (by omega);have hj:∀b:Bool,(b=true∨(genF c s m r tg=true∧¬(c=k1∧s=st1∧m=(rs1.length:Int)∧r=r1)))->Qa.j5 k a6 k1 tg r1 r2 (Qbb st1 (rs1.length:Int) r1) c s m r x96 x97 x98 x106 x107 x108 x117 x118 x119 x125 (x125.length:Int) (i:Int) b st1 rs1 st2 rs2=some true:=fun b hb=>
  j5_ok hk1 hr1 hst hn htg c s m r x125 _ _ b hb K hK (by rw[hw];exact h) k (by omega)
 have hg:¬(c=k1∧s=st1∧m=(rs1.length:Int)∧r=r1)->Qa.j5 k a6 k1 tg r1 r2 (Qbb st1 (rs1.length:Int) r1) c s m r x96 x97 x98 x106 x107 x108 x117 x118 x119 x125 (x125.length:Int) (i:Int) (!(genF c s m r tg)) st1 rs1 st2 rs2=some true:=fun hne=>hj _ (by
  cases hG:genF c s m r tg with
  |true=>exact .inr ⟨rfl,hne⟩
  |false=>exact .inl rfl)
 rw[Sg.l3_eq,if_pos c1,if_pos (Int.natCast_nonneg i),if_pos c1,rdO hi,gen_f hc hr,Option.bind_some]
 by_cases e1:c=k1
 ·rw[if_pos (tl_inj.2 e1)]
  by_cases e2:s=st1
  ·rw[if_pos e2]
   by_cases e3:m=(rs1.length:Int)
   ·rw[if_pos e3]
    by_cases e4:r=r1
    ·rw[if_pos (tl_inj.2 e4)];exact hj true (.inl rfl)
    ·rw[if_neg (fun h=>e4 (tl_inj.1 h))];exact hg (fun h=>e4 h.2.2.2)
   ·rw[if_neg e3];exact hg (fun h=>e3 h.2.2.1)
  ·rw[if_neg e2];exact hg (fun h=>e2 h.2.1)
 ·rw[if_neg (fun h=>e1 (tl_inj.1 h))];exact hg (fun h=>e1 h.1)
theorem l3_ok(hk1:k1.size=32)(hr1:r1.size=32)(hr2:r2.size=32)(hst:0<=st1∧st1<=99)(hn:rs1.length<=60)(htg:tg=tagOf k1 st1 (rs1.length:Int) r1)
  (c:ByteArray) (hc:c.size=32) (s m:Int) (K:Nat) (hK:20<=K) (h:∀k',K<=k'->Qa.l2 k' a6 k1 tg r1 r2 (Qbb st1 (rs1.length:Int) r1) c s x96 x97 x98 x106 x107 x108 x117 x118 (wrap64 (x119+1)) st1 rs1 st2 rs2=some true) (k:Nat) (hk:K+5<=k):
  Qa.l3 k a6 k1 tg r1 r2 (Qbb st1 (rs1.length:Int) r1) c s m x96 x97 x98 x106 x107 x108 x117 x118 x119 [r1,r2] (([r1,r2]:List ByteArray).length:Int) 0 st1 rs1 st2 rs2=some true:=by
 refine l3_step hk1 hr1 hst hn htg c hc s m r1 hr1 [r1,r2] 0 rfl (by simp) (K+3) (by omega) (fun k' hk'=>l3_step hk1 hr1 hst hn htg c hc s m r2 hr2 [r1,r2] 1 rfl (by simp) (K+1) (by omega) (fun k2 hk2=>?_) k' (by omega)) k (by omega);obtain⟨k2,rfl⟩:∃q,k2=q+1:=⟨k2 - 1,by omega⟩
 rw[Sg.l3_eq,if_neg (by simp)];exact h k2 (by omega)
theorem l2_step(hk1:k1.size=32)(hr1:r1.size=32)(hr2:r2.size=32)(hst:0<=st1∧st1<=99)(hn:rs1.length<=60)(htg:tg=tagOf k1 st1 (rs1.length:Int) r1)
  (c:ByteArray) (hc:c.size=32) (s:Int) (L:List Int) (i:Nat) (hi:i<L.length) (hl:L.length<=100) (K:Nat) (hK:20<=K) (h:∀k',K<=k'->Qa.l2 k' a6 k1 tg r1 r2 (Qbb st1 (rs1.length:Int) r1) c s x96 x97 x98 x106 x107 x108 L (L.length:Int) ((i+1:Nat):Int) st1 rs1 st2 rs2=some true) (k:Nat) (hk:K+6<=k):
  Qa.l2 k a6 k1 tg r1 r2 (Qbb st1 (rs1.length:Int) r1) c s x96 x97 x98 x106 x107 x108 L (L.length:Int) (i:Int) st1 rs1 st2 rs2=some true:=by
 obtain⟨k,rfl⟩:∃q,k=q+1:=⟨k - 1,by omega⟩
 have c1:(i:Int)<(L.length:Int):=by omega
 have hw:=wn i (by omega);rw[Sg.l2_eq,if_pos c1,if_pos (Int.natCast_nonneg i),if_pos c1,Option.bind_some];exact l3_ok hk1 hr1 hr2 hst hn htg c hc s _ K hK (by rw[hw];exact h) k (by omega)
theorem l2_ok(hk1:k1.size=32)(hr1:r1.size=32)(hr2:r2.size=32)(hst:0<=st1∧st1<=99)(hn:rs1.length<=60)(htg:tg=tagOf k1 st1 (rs1.length:Int) r1)
  (c:ByteArray) (hc:c.size=32) (s:Int) (a b:Int) (K:Nat) (hK:20<=K) (h:∀k',K<=k'->Qa.l1 k' a6 k1 tg r1 r2 (Qbb st1 (rs1.length:Int) r1) c x96 x97 x98 x106 x107 (wrap64 (x108+1)) st1 rs1 st2 rs2=some true) (k:Nat) (hk:K+13<=k):
  Qa.l2 k a6 k1 tg r1 r2 (Qbb st1 (rs1.length:Int) r1) c s x96 x97 x98 x106 x107 x108 [a,b] (([a,b]:List Int).length:Int) 0 st1 rs1 st2 rs2=some true:=by
 refine l2_step hk1 hr1 hr2 hst hn htg c hc s [a,b] 0 (by simp) (by simp) (K+7) (by omega) (fun k' hk'=>l2_step hk1 hr1 hr2 hst hn htg c hc s [a,b] 1 (by simp) (by simp) (K+1) (by omega) (fun k2 hk2=>?_) k' (by omega)) k (by omega);obtain⟨k2,rfl⟩:∃q,k2=q+1:=⟨k2 - 1,by omega⟩
 rw[Sg.l2_eq,if_neg (by simp)];exact h k2 (by omega)
theorem l1_step(hk1:k1.size=32)(hr1:r1.size=32)(hr2:r2.size=32)(hst:0<=st1∧st1<=99)(hn:rs1.length<=60)(htg:tg=tagOf k1 st1 (rs1.length:Int) r1)(h6:In a6)
  (c:ByteArray) (hc:c.size=32) (L:List Int) (i:Nat) (hi:i<L.length) (hl:L.length<=100) (K:Nat) (hK:20<=K) (h:∀k',K<=k'->Qa.l1 k' a6 k1 tg r1 r2 (Qbb st1 (rs1.length:Int) r1) c x96 x97 x98 L (L.length:Int) ((i+1:Nat):Int) st1 rs1 st2 rs2=some true) (k:Nat) (hk:K+14<=k):
  Qa.l1 k a6 k1 tg r1 r2 (Qbb st1 (rs1.length:Int) r1) c x96 x97 x98 L (L.length:Int) (i:Int) st1 rs1 st2 rs2=some true:=by
 obtain⟨k,rfl⟩:∃q,k=q+1:=⟨k - 1,by omega⟩
 have c1:(i:Int)<(L.length:Int):=by omega
 have hw:=wn i (by omega);rw[Sg.l1_eq,if_pos c1,if_pos (Int.natCast_nonneg i),if_pos c1,lpick_is _ _ h6 (by decide),Option.bind_some,Option.bind_some];exact l2_ok hk1 hr1 hr2 hst hn htg c hc _ _ _ K hK (by rw[hw];exact h) k (by omega)
theorem l1_ok(hk1:k1.size=32)(hr1:r1.size=32)(hr2:r2.size=32)(hst:0<=st1∧st1<=99)(hn:rs1.length<=60)(htg:tg=tagOf k1 st1 (rs1.length:Int) r1)(h6:In a6)
  (c:ByteArray) (hc:c.size=32) (a b:Int) (K:Nat) (hK:20<=K) (h:∀k',K<=k'->Qa.l0 k' a6 k1 tg r1 r2 (Qbb st1 (rs1.length:Int) r1) x96 x97 (wrap64 (x98+1)) st1 rs1 st2 rs2=some true) (k:Nat) (hk:K+29<=k):
  Qa.l1 k a6 k1 tg r1 r2 (Qbb st1 (rs1.length:Int) r1) c x96 x97 x98 [a,b] (([a,b]:List Int).length:Int) 0 st1 rs1 st2 rs2=some true:=by
 refine l1_step hk1 hr1 hr2 hst hn htg h6 c hc [a,b] 0 (by simp) (by simp) (K+15) (by omega) (fun k' hk'=>l1_step hk1 hr1 hr2 hst hn htg h6 c hc [a,b] 1 (by simp) (by simp) (K+1) (by omega) (fun k2 hk2=>?_) k' (by omega)) k (by omega);obtain⟨k2,rfl⟩:∃q,k2=q+1:=⟨k2 - 1,by omega⟩
 rw[Sg.l1_eq,if_neg (by simp)];exact h k2 (by omega)
theorem l0_step(hk1:k1.size=32)(hr1:r1.size=32)(hr2:r2.size=32)(hst:0<=st1∧st1<=99)(hn:rs1.length<=60)(htg:tg=tagOf k1 st1 (rs1.length:Int) r1)(h6:In a6)
  (L:List ByteArray) (hL:∀x ∈ L,x.size=32) (i:Nat) (hi:i<L.length) (hl:L.length<=100) (K:Nat) (hK:20<=K) (h:∀k',K<=k'->Qa.l0 k' a6 k1 tg r1 r2 (Qbb st1 (rs1.length:Int) r1) L (L.length:Int) ((i+1:Nat):Int) st1 rs1 st2 rs2=some true) (k:Nat) (hk:K+30<=k):
  Qa.l0 k a6 k1 tg r1 r2 (Qbb st1 (rs1.length:Int) r1) L (L.length:Int) (i:Int) st1 rs1 st2 rs2=some true:=by
 obtain⟨k,rfl⟩:∃q,k=q+1:=⟨k - 1,by omega⟩
 have c1:(i:Int)<(L.length:Int):=by omega
 have hw:=wn i (by omega);rw[Sg.l0_eq,if_pos c1,if_pos (Int.natCast_nonneg i),if_pos c1,Option.bind_some,rdO (List.getElem?_eq_getElem hi)];exact l1_ok hk1 hr1 hr2 hst hn htg h6 _ (hL _ (List.getElem_mem hi)) _ _ K hK (by rw[hw];exact h) k (by omega)
theorem l0_ok(hk1:k1.size=32)(hk2:k2.size=32)(hr1:r1.size=32)(hr2:r2.size=32)(hst:0<=st1∧st1<=99)(hn:rs1.length<=60)(htg:tg=tagOf k1 st1 (rs1.length:Int) r1)(h6:In a6)(k:Nat)(hk:100<=k):
  Qa.l0 k a6 k1 tg r1 r2 (Qbb st1 (rs1.length:Int) r1) [k1,k2] (([k1,k2]:List ByteArray).length:Int) 0 st1 rs1 st2 rs2=some true:=by
 have hL:∀x ∈ [k1,k2],x.size=32:=by
  intro x hx;simp only[List.mem_cons,List.not_mem_nil,or_false] at hx;rcases hx with rfl |rfl
  ·exact hk1
  ·exact hk2
 refine l0_step hk1 hr1 hr2 hst hn htg h6 [k1,k2] hL 0 (by simp) (by simp) 60 (by omega) (fun k' hk'=>l0_step hk1 hr1 hr2 hst hn htg h6 [k1,k2] hL 1 (by simp) (by simp) 25 (by omega) (fun k3 hk3=>?_) k' (by omega)) k (by omega);obtain⟨k3,rfl⟩:∃q,k3=q+1:=⟨k3 - 1,by omega⟩
 rw[Sg.l0_eq,if_neg (by simp)]
end
theorem five_in{l:List Five}(w:∀x ∈ l,W64 x.f0∧W64 x.f1∧W64 x.f2∧W64 x.f3∧W64 x.f4):∀x ∈ l,inFive x:=fun x hx=>by
 obtain⟨q0,q1,q2,q3,q4⟩:=w x hx;exact⟨DigSpec.wf64 q0,DigSpec.wf64 q1,DigSpec.wf64 q2,DigSpec.wf64 q3,DigSpec.wf64 q4⟩
theorem few_of{rs:List Rec}(h:rs.length<=12):few6 rs:=by unfold few6;omega
theorem head_f{st:Int}{rs:List Rec}(hv:Qcv st rs=true)(h:rs.length<=12):Qbd.f st rs=some (rootOf rs,0):=by
 unfold Qbd.f headF;rw[if_pos (few_of h),hv,if_pos rfl]
theorem sign_f{k:ByteArray}{st:Int}{rs:List Rec}(hk:k.size=32)(hv:Qcv st rs=true)(h:rs.length<=12):Qb1.f k st rs=some (tagOf k st (rs.length:Int) (rootOf rs),0):=by
 unfold Qb1.f signF;rw[if_pos ⟨few_of h,by omega⟩,hv,decide_eq_true hk,Bool.and_self,if_pos rfl]
theorem gen_own{k:ByteArray}{st n:Int}{r:ByteArray}(hk:k.size=32)(hs:0<=st∧st<=99)(hn:0<=n∧n<=60)(hr:r.size=32):genF k st n r (tagOf k st n r)=true:=by
 unfold genF;rw[decide_eq_true (show genC k st n r from ⟨hs,hn,hk,hr⟩),Bool.true_and];exact beq_iff_eq.2 rfl
theorem LogbookSigned(a0:Int)(l1 l2:List Five)(a3 a4 a5 a6:Int)(w0:(Lit.int .i64 a0).wf=true)(w1:∀x ∈ l1,W64 x.f0∧W64 x.f1∧W64 x.f2∧W64 x.f3∧W64 x.f4)(w2:∀x ∈ l2,W64 x.f0∧W64 x.f1∧W64 x.f2∧W64 x.f3∧W64 x.f4)
  (w3:(Lit.int .i64 a3).wf=true) (w4:(Lit.int .i64 a4).wf=true) (w5:(Lit.int .i64 a5).wf=true) (w6:(Lit.int .i64 a6).wf=true):∃k,Qa.f k a0 l1 l2 a3 a4 a5 a6=some true:=by
 refine⟨1000,?_⟩;obtain⟨m1,m2,m3,m4,m5⟩:=made_ok a0 l1;obtain⟨n1,n2,n3,n4,n5⟩:=made_ok a5 l2;have hst:=Qcw a0 100 (by decide);have hk1:(keyF a3).size=32:=hash_size _;have hk2:(keyF a4).size=32:=hash_size _;have hr1:(rootOf (madeF l1)).size=32:=root_size _;have hr2:(rootOf (madeF l2)).size=32:=root_size _;have hG:=gen_own (k:=keyF a3) (st:=pkN a0 100) (n:=((madeF l1).length:Int)) (r:=rootOf (madeF l1)) hk1 (by omega) (by omega) hr1;have hL:=l0_ok (a6:=a6) (k1:=keyF a3) (k2:=keyF a4) (tg:=tagOf (keyF a3) (pkN a0 100) ((madeF l1).length:Int) (rootOf (madeF l1))) (r1:=rootOf (madeF l1)) (r2:=rootOf (madeF l2)) (st1:=pkN a0 100) (st2:=pkN a5 100) (rs1:=madeF l1) (rs2:=madeF l2) hk1 hk2 hr1 hr2 (by omega) (by omega) rfl (DigSpec.wf64 w6) 999 (by omega);unfold Qa.f Qcn.f;rw[Option.bind_some,if_pos rfl,made_is a0 l1 (DigSpec.wf64 w0) (five_in w1),Option.bind_some,made_is a5 l2 (DigSpec.wf64 w5) (five_in w2),Option.bind_some,show Qa4.f a3=some (keyF a3) from if_pos (DigSpec.wf64 w3),Option.bind_some,show Qa4.f a4=some (keyF a4) from if_pos (DigSpec.wf64 w4),Option.bind_some]
 dsimp only
 rw[sign_f hk1 m5 m2,Option.bind_some,head_f m5 m2,Option.bind_some,head_f n5 n2,Option.bind_some]
 dsimp only
 rw[if_pos rfl,if_pos rfl,if_pos rfl,gen_f hk1 hr1,Option.bind_some,hG,Sg.j0_eq,if_neg (by decide),content_f (by omega) (by omega) hr1,Option.bind_some,Option.bind_some];exact hL
end Go.Proofs.YtfdlmpicmkpabaaDoor.Pure
end
section
namespace Go.Proofs.YtfdlmpicmkpabaaDoor.logbookSigned
open Go.ChangeShapes Go.WideShapes Go.ChangeAt Go.RowKit
open Go.ChangeMaps (open_string shut_string)
theorem own:ownKnob Tryd.prog.godebug=none:=by kernel_rfl
theorem laidOut:laidOutB Tryd.prog=true:=by kernel_rfl
theorem door_met(os:Os)(args:Array Value):laidMetH Tryd.prog [("aircheck/digest.round",Rows.laid_aircheck_digest_round)] ((World.doorLaid Tryd.prog 400 os).forCall (fun _ _=>0) ⟨#[],args,[]⟩).memory:=
 laidMetH_of_parts3 (fuel:=8) (laidMet_of_run' 8 (by kernel_rfl) (by kernel_rfl)) (by kernel_rfl) (by kernel_rfl)
set_option maxRecDepth 100000 in
set_option maxHeartbeats 1000000 in
theorem lifted(os:Os)(started:os.Started)(H:Type)(enc:TypeId × Value->H):
  ReturnsInHanded {} Tryd.checked os 3 .any (fun w args=>(Rows.logbookSignedSpec.pre enc Tryd.prog Tryd.f3 [] false w args∧laidMetH Tryd.prog [("aircheck/digest.round",Rows.laid_aircheck_digest_round)] w)∧sizedMet enc Tryd.prog Tryd.f3 (OpenSpec.ofChange Rows.logbookSignedSpec) false w args)
   (Rows.logbookSignedSpec.post enc Tryd.prog Tryd.f3 false true false false):=by
 refine returnsInHanded_of_change_and (C:=Tryd.checked) (X:=fun w _=>laidMetH Tryd.prog [("aircheck/digest.round",Rows.laid_aircheck_digest_round)] w) (fun _ _ _ hh h=>h.of_heap hh) own started (by kernel_rfl) Tryd.func3
  (ChangeSpec.witness_shaped (enc:=enc) (C:=Tryd.checked) (os:=os) (X:=fun w _=>laidMetH Tryd.prog [("aircheck/digest.round",Rows.laid_aircheck_digest_round)] w) false (World.doorLaid Tryd.prog 400 os) #[.int .i64 0,.slice none 0 0,.slice none 0 0,.int .i64 0,.int .i64 0,.int .i64 0,.int .i64 0] 8 rfl (World.shaped_of_RefB (by kernel_rfl) (by kernel_rfl)) (by kernel_rfl) (by kernel_rfl) (by kernel_rfl) (door_met os _)) ?_
 intro W base args ds gs before hval0 hW hcnd hsz0 hL _;have hsz:(DataW.weightsEach Tryd.prog (Tryd.f3.params.toList++Rows.logbookSignedSpec.plain.varTypes Tryd.prog) (ds++gs)).all (· <=reachBytes)=true:=hsz0;have hval:∀(j:Nat) t v,Tryd.f3.params[j]?=some t->args[j]?=some v->Value.okWide Tryd.prog W .any base t v:=hval0
 have hW':=hW;obtain⟨p,q,hA0,hV,rfl,hfz,hnd⟩:=hW;have hA:DataW.TrodAll enc Tryd.prog W 0 (fun _=>true) true Tryd.f3.params.toList args.toList ds p:=hA0;rw[Tryd.params3] at hA hval hsz;obtain⟨v0,vs0,d0,ds0,p0,q0,hargs,rfl,rfl,h0,r0⟩:=trodAll_cons hA;obtain⟨v1,vs1,d1,ds1,p1,q1,rfl,rfl,rfl,h1,r1⟩:=trodAll_cons r0;obtain⟨v2,vs2,d2,ds2,p2,q2,rfl,rfl,rfl,h2,r2⟩:=trodAll_cons r1;obtain⟨v3,vs3,d3,ds3,p3,q3,rfl,rfl,rfl,h3,r3⟩:=trodAll_cons r2;obtain⟨v4,vs4,d4,ds4,p4,q4,rfl,rfl,rfl,h4,r4⟩:=trodAll_cons r3;obtain⟨v5,vs5,d5,ds5,p5,q5,rfl,rfl,rfl,h5,r5⟩:=trodAll_cons r4;obtain⟨v6,vs6,d6,ds6,p6,q6,rfl,rfl,rfl,h6,r6⟩:=trodAll_cons r5;obtain⟨rfl,rfl,rfl⟩:=trodAll_nil r6;obtain rfl:args= #[v0,v1,v2,v3,v4,v5,v6]:=by cases args;simp_all
 obtain⟨rfl,rfl⟩:=trodVars_none hV;obtain⟨a0,rfl,rfl,rfl,w0⟩:=open_int Tryd.underlying3 (hval 0 3 v0 rfl rfl) h0;obtain⟨a1,len1,cap1,rfl⟩:=okWide_slice Tryd.underlying22 (hval 1 22 v1 rfl rfl);have k1:=h1;have lt1:∀x ∈ p1,x.block<W.heap.size:=by obtain⟨m,hm⟩:=k1;exact DataW.trod_lt m _ _ _ hm
 obtain⟨fuel1,hf1⟩:=h1;obtain⟨l1,rfl,hr1,hm1,hw1,hc1⟩:=Ext.rows75 (A:=a1) (len:=len1) (cap:=cap1) hf1;obtain⟨a2,len2,cap2,rfl⟩:=okWide_slice Tryd.underlying22 (hval 2 22 v2 rfl rfl);have k2:=h2;have lt2:∀x ∈ p2,x.block<W.heap.size:=by obtain⟨m,hm⟩:=k2;exact DataW.trod_lt m _ _ _ hm
 obtain⟨fuel2,hf2⟩:=h2;obtain⟨l2,rfl,hr2,hm2,hw2,hc2⟩:=Ext.rows75 (A:=a2) (len:=len2) (cap:=cap2) hf2;obtain⟨a3,rfl,rfl,rfl,w3⟩:=open_int Tryd.underlying3 (hval 3 3 v3 rfl rfl) h3;obtain⟨a4,rfl,rfl,rfl,w4⟩:=open_int Tryd.underlying3 (hval 4 3 v4 rfl rfl) h4;obtain⟨a5,rfl,rfl,rfl,w5⟩:=open_int Tryd.underlying3 (hval 5 3 v5 rfl rfl) h5;obtain⟨a6,rfl,rfl,rfl,w6⟩:=open_int Tryd.underlying3 (hval 6 3 v6 rfl rfl) h6;clear hA0 hval0 hsz0 hsz;have hG:Ext.GL W:=Ext.gl_of_laid hL;obtain⟨k,hk⟩:=Pure.LogbookSigned a0 l1 l2 a3 a4 a5 a6 w0 hw1 hw2 w3 w4 w5 w6;refine (PL.Qa.calls k a0 _ _ l1 _ _ l2 a3 a4 a5 a6 true W hr1 hc1 hr2 hc2 hG hk).mono fun e W' ⟨he,bel⟩=>?_
 subst he;exact⟨_,rfl,_,_,_,[],_,[],hW',trodAll_mk1 (shut_bool Tryd.underlying4 _),(trodAll_cons_mk (shut_int Tryd.underlying3 w0) (trodAll_cons_mk (Below.trod laidOut (by kernel_rfl) (of_decide_eq_true (by kernel_rfl)) k1 bel lt1) (trodAll_cons_mk (Below.trod laidOut (by kernel_rfl) (of_decide_eq_true (by kernel_rfl)) k2 bel lt2) (trodAll_cons_mk (shut_int Tryd.underlying3 w3) (trodAll_cons_mk (shut_int Tryd.underlying3 w4) (trodAll_cons_mk (shut_int Tryd.underlying3 w5) (trodAll_cons_mk (shut_int Tryd.underlying3 w6) trodAll_mk0))))))),rfl,bel.frame _,fun h=>by cases h⟩
theorem over:Rows.logbookSignedRow.holds Tryd.pinned (OpenSpec.ofChange Rows.logbookSignedSpec):=
 OpenClaim.holds_of_wide 3 Tryd.f3 rfl rfl rfl rfl rfl rfl rfl ⟨rfl,rfl,rfl,rfl,rfl⟩ rfl rfl rfl rfl rfl (by kernel_rfl) Tryd.func3 (by kernel_rfl)
  (of_decide_eq_true (by kernel_rfl)) (by unfold Func.isWrapper;first |(rw[if_pos (by decide+kernel)];kernel_rfl) |(rw[if_neg (by decide+kernel)];exact⟨rfl,rfl⟩))
  (fun os started H enc _=>lifted os started H enc)
theorem card_holds:Claim7.holds Tryd.pinned (.plain (OpenSpec.ofChange Rows.logbookSignedSpec)) Rows.logbookSignedCard:=
 Claim7.holds_tied_plain_at .later [] [.data] true (true,"5ce70843555c7c970a6d04322d33253341ba45aa19b436616530afadfd2e2009") true
  over (fun _ h=>by cases h) (by kernel_rfl) (fun _ h=>by cases h) logbookSigned_row_tie rfl ⟨rfl,rfl⟩ (by kernel_rfl) rfl
  (fun f fn hf hfn=>by
   obtain rfl:f=3:=Option.some.inj ((show Tryd.prog.funcNamed "aircheck/airchecklaw35.LogbookSigned" =some 3 by kernel_rfl).symm.trans hf) |>.symm
   obtain rfl:fn=Tryd.f3:=(Option.some.inj (Tryd.func3.symm.trans hfn)).symm;exact⟨by kernel_rfl,fun j t ht=>by
    rw[Tryd.params3] at ht;have hm:t ∈ [3,22,22,3,3,3,3]:=by simpa using Array.mem_of_getElem? ht
    have hall:([3,22,22,3,3,3,3].all fun u=> !Tryd.prog.wantsStandIn u)=true:=by kernel_rfl
    exact (show Tryd.prog.wantsStandIn t=false by simpa using List.all_eq_true.1 hall t hm)⟩)
  (by kernel_rfl)
end Go.Proofs.YtfdlmpicmkpabaaDoor.logbookSigned
namespace Go.Proofs.YtfdlmpicmkpabaaDoor
theorem logbookSigned_holds:Rows.LogbookSignedCardSaid:=logbookSigned.card_holds
#print axioms logbookSigned_holds
end Go.Proofs.YtfdlmpicmkpabaaDoor
end
