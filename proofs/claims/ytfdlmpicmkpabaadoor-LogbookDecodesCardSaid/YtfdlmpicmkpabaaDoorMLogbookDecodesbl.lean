import Derived.Test.YtfdlmpicmkpabaaDoorMLogbookDecodesbk
import Derived.Test.YtfdlmpicmkpabaaDoorMLogbookDecodesam
import Derived.Test.YtfdlmpicmkpabaaDoorMLogbookDecodesag
import Derived.Deep.LoopGhost
import Derived.Lib.Hide
/-
  Texts of this claim, one behind the other: what they prove stands above each.
-/
set_option linter.unusedVariables false
set_option linter.unusedSimpArgs false
section
namespace Go.Proofs.YtfdlmpicmkpabaaDoor.LbSpec
set_option maxRecDepth 100000
open Go.RowKit Go.Proofs.YtfdlmpicmkpabaaDoorW.PrintWords Go.Proofs.YtfdlmpicmkpabaaDoorW.PrintLast Go.Proofs.YtfdlmpicmkpabaaDoorW.PrintMore Go.Proofs.YtfdlmpicmkpabaaDoor.Ext
set_option maxRecDepth 100000
theorem lpick_d(c n:Int)(hc:In c)(hn:0<n)(r:Int)(hr:pkN c n=r)(w:World):Calls Tryd.prog 16 #[.int .i64 c,.int .i64 n] w fun e w'=>e=.returned (.int .i64 r)∧w'=w:=by
 have hn0:¬n=0:=by omega
 subst hr;unfold pkN
 by_cases h:c<0
 ·have e1:wrap64 (-(c+1))= -(c+1):=by unfold wrap64;omega
  have e2:Int.tmod (-(c+1)) n=(-(c+1))%n:=Int.tmod_eq_emod_of_nonneg (by omega);rw[if_pos h, <-e2];clear e2
  go_enter Tryd.func16,Tryd.ntmps16
  go_wp2
  go_ret
  exact⟨by first |rfl |(simp;done) |(simp[*];done),rfl⟩
 ·have h0:0<=c:=by omega
  have hn1:0<=n:=by omega
  rw[if_neg h]
  go_enter Tryd.func16,Tryd.ntmps16
  go_wp2
  go_ret
  exact⟨by first |rfl |(simp;done) |(simp[*];done),rfl⟩
theorem txt_size{r:Rec}(hr:recB r=true):0<(txtR r).size∧(txtR r).size<=300:=by
 have hb:=recB_true hr;have hl9:=enc_len _ (fld_ok hr);simp only[List.length_cons,List.length_nil] at hl9;have hs3:=WireSpec.enc_len r.f4.size (by omega);have hE:encR r=encL [r.f0,r.f1,r.f2,r.f3]++(Leb.enc (r.f4.size:Int)++nat r.f4):=rfl;have h0:0<(Leb.enc (r.f4.size:Int)).length:=by
  refine Nat.pos_of_ne_zero fun e=>?_
  have e:=List.eq_nil_of_length_eq_zero e;have:=encCut (a:=(r.f4.size:Int)) (b:=(r.f4.size:Int)+1) (x:=Leb.enc ((r.f4.size:Int)+1)++[]) (y:=[]) (by rw[e];rfl);omega
 rw[WireSpec.size_nat,txt_nat,hE,List.length_append,List.length_append,nat_length];omega
theorem encode_ok(r:Rec)(h:recB r=true)(w:World):Calls Tryd.prog 20 #[rval r] w fun e w'=>e=.returned (.tuple #[.string (txtR r),.int .i64 0])∧Below w.heap.size w w':=by
 have:=encode_walk r w;unfold encF at this
 rwa [h,if_pos rfl] at this
theorem tl_inj{s t:ByteArray}:s.toList=t.toList↔s=t:=WireSpec.toList_eq s t
attribute [local go_sem] Oper.semAt_some min2_int min_two
attribute [local go_sem high] PB.eqA43
set_option maxHeartbeats 4000000 in
theorem decodes_walk(a0 x0 x1 x2 x3 a2 y0 y1 y2 y3:Int)(text:ByteArray)(pl c:Int)(i0:In a0)(j0:In x0)(j1:In x1)(j2:In x2)(j3:In x3)(i2:In a2)(k0:In y0)(k1:In y1)(k2:In y2)(k3:In y3)(i5:In pl)(hcb:0<=c∧c<=255)
  (w:World) (hG:GL w):
  Calls Tryd.prog 4 #[.int .i64 a0,.agg #[.int .i64 x0,.int .i64 x1,.int .i64 x2,.int .i64 x3],.int .i64 a2,.agg #[.int .i64 y0,.int .i64 y1,.int .i64 y2,.int .i64 y3],.string text,.int .i64 pl,.int .u8 c] w fun e w'=>e=.returned (.bool true)∧Below w.heap.size w w':=by
 obtain⟨a,ha⟩:∃r,entF a0 x0 x1 x2 x3=r:=⟨_,rfl⟩
 obtain⟨b,hb⟩:∃r,entF a2 y0 y1 y2 y3=r:=⟨_,rfl⟩
 have hra:recB a=true:=by rw[<-ha];exact (entF_ok _ _ _ _ _).1
 have hrb:recB b=true:=by rw[<-hb];exact (entF_ok _ _ _ _ _).1
 have HEA:Hid (∀W,Calls Tryd.prog 19 #[.int .i64 a0,.agg #[.int .i64 x0,.int .i64 x1,.int .i64 x2,.int .i64 x3]] W fun e w'=>e=.returned (rval a)∧Below W.heap.size W w'):=Lib.hid (fun W=>by
  have:=entry_walk a0 x0 x1 x2 x3 i0 j0 j1 j2 j3 W
  rwa [ha] at this)
 have HEB:Hid (∀W,Calls Tryd.prog 19 #[.int .i64 a2,.agg #[.int .i64 y0,.int .i64 y1,.int .i64 y2,.int .i64 y3]] W fun e w'=>e=.returned (rval b)∧Below W.heap.size W w'):=Lib.hid (fun W=>by
  have:=entry_walk a2 y0 y1 y2 y3 i2 k0 k1 k2 k3 W
  rwa [hb] at this)
 obtain⟨sa,hsa⟩:∃s,txtR a=s:=⟨_,rfl⟩
 obtain⟨sb,hsb⟩:∃s,txtR b=s:=⟨_,rfl⟩
 have za:=txt_size hra;have zb:=txt_size hrb;rw[hsa] at za;rw[hsb] at zb;have HCA:Hid (∀W,Calls Tryd.prog 20 #[.agg #[.int .i64 a.f0,.int .i64 a.f1,.int .i64 a.f2,.int .i64 a.f3,.string a.f4]] W fun e w'=>e=.returned (.tuple #[.string sa,.int .i64 0])∧Below W.heap.size W w'):=Lib.hid (fun W=>by rw[<-hsa];exact encode_ok a hra W);have HCB:Hid (∀W,Calls Tryd.prog 20 #[.agg #[.int .i64 b.f0,.int .i64 b.f1,.int .i64 b.f2,.int .i64 b.f3,.string b.f4]] W fun e w'=>e=.returned (.tuple #[.string sb,.int .i64 0])∧Below W.heap.size W w'):=Lib.hid (fun W=>by rw[<-hsb];exact encode_ok b hrb W);have HDA:Hid (∀W,Calls Tryd.prog 21 #[.string sa] W fun e w'=>e=.returned (.tuple #[.agg #[.int .i64 a.f0,.int .i64 a.f1,.int .i64 a.f2,.int .i64 a.f3,.string a.f4],.int .i64 0])∧Below W.heap.size W w'):=Lib.hid (fun W=>by
  have:=decode_walk sa (by omega) W
  rwa [<-hsa,dec_enc a hra,hsa] at this)
 obtain⟨Q,hQ⟩:∃Q:Bool,(Q=true↔a=b):=by
  by_cases e:a=b
  ·exact⟨true,by simp[e]⟩
  ·exact⟨false,by simp[e]⟩
 have hqf:Q=false->¬a=b:=fun hq e=>by rw[hQ.2 e] at hq;cases hq
 have hES:(sa.toList==sb.toList)=Q:=by
  cases hq:Q with
  |true=>rw[<-hsa, <-hsb,hQ.1 hq];simp
  |false=>
   refine beq_eq_false_iff_ne.2 fun h=>hqf hq (txt_inj ?_)
   rw[hsa,hsb];exact tl_inj.1 h
 have hER:(a.f0==b.f0&&(a.f1==b.f1&&(a.f2==b.f2&&(a.f3==b.f3&&(a.f4.toList==b.f4.toList)))))=Q:=by
  cases hq:Q with
  |true=>rw[hQ.1 hq];simp
  |false=>
   refine Bool.eq_false_iff.2 fun h=>hqf hq ?_
   simp only[Bool.and_eq_true,beq_iff_eq] at h;obtain⟨h0,h1,h2,h3,h4⟩:=h;have h5:=tl_inj.1 h4;clear h4
   cases a
   cases b
   simp only at h0 h1 h2 h3 h5;subst h0 h1 h2 h3 h5;rfl
 have hp1:Q=false->¬sb.extract 0 sa.size=sa:=fun hq h=>by
  rw[<-hsa, <-hsb] at h;exact hqf hq (txt_prefix h)
 have hp2:Q=false->¬sa.extract 0 sb.size=sb:=fun hq h=>by
  rw[<-hsa, <-hsb] at h;exact hqf hq (txt_prefix h).symm
 obtain⟨kk,hkk⟩:∃k,pkN pl (sa.size:Int)=k:=⟨_,rfl⟩
 have bkk:=pkN_range pl (sa.size:Int) (by omega);rw[hkk] at bkk;have hz:((sa.size:Int)==0)=false:=beq_eq_false_iff_ne.2 (by omega);have HZ:=Lib.hid (And.intro za zb);have HP:=Lib.hid (And.intro hp1 hp2);have HK:=Lib.hid (And.intro hkk bkk);have HES:=Lib.hid hES;have HER:=Lib.hid hER;have HG:=Lib.hid hG;clear ha hb hra hrb hsa hsb za zb hQ hqf hp1 hp2 hkk bkk hG hES hER;have hb0:=((Below.refl w.heap.size w).alloc (Nat.le_refl _) (.cells #[.int .i64 x0,.int .i64 x1,.int .i64 x2,.int .i64 x3] 41)).alloc (by simp) (.cells #[.int .i64 y0,.int .i64 y1,.int .i64 y2,.int .i64 y3] 41);have hX:=(Blk.newA w 41 #[.int .i64 x0,.int .i64 x1,.int .i64 x2,.int .i64 x3] [.int .i64 x0,.int .i64 x1,.int .i64 x2,.int .i64 x3] rfl).alloc (.cells #[.int .i64 y0,.int .i64 y1,.int .i64 y2,.int .i64 y3] 41);have hY:Blk ((w.alloc (.cells #[.int .i64 x0,.int .i64 x1,.int .i64 x2,.int .i64 x3] 41)).alloc (.cells #[.int .i64 y0,.int .i64 y1,.int .i64 y2,.int .i64 y3] 41)) (w.heap.size+1) 41 [.int .i64 y0,.int .i64 y1,.int .i64 y2,.int .i64 y3]:=by
  have:=Blk.newA (w.alloc (.cells #[.int .i64 x0,.int .i64 x1,.int .i64 x2,.int .i64 x3] 41)) 41 #[.int .i64 y0,.int .i64 y1,.int .i64 y2,.int .i64 y3] [.int .i64 y0,.int .i64 y1,.int .i64 y2,.int .i64 y3] rfl
  rwa [World.size_alloc] at this
 have HB0:=Lib.hid hb0;have HX:=Lib.hid hX;have HY:=Lib.hid hY;clear hb0 hX hY
 go_enter Tryd.func4,Tryd.ntmps4
 go_upto_region 3 with (first |(go_at_call 9;(with_reducible refine (airchecklaw35_sane.calls true _ (HG.out.below HB0.out) rfl).mono ?_);rintro e w1 ⟨rfl,hb1⟩;have HB1:=Lib.hid (Below.trans HB0.out (hb1.mono HB0.out.size));have HX1:=Lib.hid (HX.out.belowS hb1);have HY1:=Lib.hid (HY.out.belowS hb1);clear hb1) |fail)
 have c0:=HX1.out.cell (j:=0) rfl;have c1:=HX1.out.cell (j:=1) rfl;have c2:=HX1.out.cell (j:=2) rfl;have c3:=HX1.out.cell (j:=3) rfl
 go_upto_region 4 with (first |(go_at_call 19;(with_reducible refine (HEA.out _).mono ?_);rintro e w2 ⟨rfl,hb2⟩) |fail)
 have HA2:=Lib.hid (Blk.newA w2 43 #[.int .i64 a.f0,.int .i64 a.f1,.int .i64 a.f2,.int .i64 a.f3,.string a.f4] (rcells a) rfl);have HY2:=Lib.hid ((HY1.out.belowS hb2).alloc (.cells #[.int .i64 a.f0,.int .i64 a.f1,.int .i64 a.f2,.int .i64 a.f3,.string a.f4] 43));have HB2:=Lib.hid ((Below.trans HB1.out (hb2.mono HB1.out.size)).alloc (Nat.le_trans HB1.out.size hb2.size) (.cells #[.int .i64 a.f0,.int .i64 a.f1,.int .i64 a.f2,.int .i64 a.f3,.string a.f4] 43));clear hb2 HB1 HX1 HY1 HX HY HB0 HEA c0 c1 c2 c3;generalize w2.alloc (.cells #[.int .i64 a.f0,.int .i64 a.f1,.int .i64 a.f2,.int .i64 a.f3,.string a.f4] 43)=w3 at*
 generalize w2.heap.size=ba at*
 have c0:=HY2.out.cell (j:=0) rfl;have c1:=HY2.out.cell (j:=1) rfl;have c2:=HY2.out.cell (j:=2) rfl;have c3:=HY2.out.cell (j:=3) rfl
 go_upto_region 5 with (first |(go_at_call 19;(with_reducible refine (HEB.out _).mono ?_);rintro e w4 ⟨rfl,hb4⟩) |fail)
 have HA4:=Lib.hid ((HA2.out.belowS hb4).alloc (.cells #[.int .i64 b.f0,.int .i64 b.f1,.int .i64 b.f2,.int .i64 b.f3,.string b.f4] 43));have HBb:=Lib.hid (Blk.newA w4 43 #[.int .i64 b.f0,.int .i64 b.f1,.int .i64 b.f2,.int .i64 b.f3,.string b.f4] (rcells b) rfl);have HB4:=Lib.hid ((Below.trans HB2.out (hb4.mono HB2.out.size)).alloc (Nat.le_trans HB2.out.size hb4.size) (.cells #[.int .i64 b.f0,.int .i64 b.f1,.int .i64 b.f2,.int .i64 b.f3,.string b.f4] 43));clear hb4 HB2 HA2 HY2 HEB c0 c1 c2 c3;generalize w4.alloc (.cells #[.int .i64 b.f0,.int .i64 b.f1,.int .i64 b.f2,.int .i64 b.f3,.string b.f4] 43)=w5 at*
 generalize w4.heap.size=bb' at*
 have p0:=HA4.out.cell (j:=0) rfl;have p1:=HA4.out.cell (j:=1) rfl;have p2:=HA4.out.cell (j:=2) rfl;have p3:=HA4.out.cell (j:=3) rfl;have p4:=HA4.out.cell (j:=4) rfl;have q0:=HBb.out.cell (j:=0) rfl;have q1:=HBb.out.cell (j:=1) rfl;have q2:=HBb.out.cell (j:=2) rfl;have q3:=HBb.out.cell (j:=3) rfl;have q4:=HBb.out.cell (j:=4) rfl
 go_upto_region 6 with (first |(go_at_call 20;(with_reducible refine (HCA.out _).mono ?_);rintro e w6 ⟨rfl,hb6⟩;have HB6:=Lib.hid (Below.trans HB4.out (hb6.mono HB4.out.size));have q0:=keepE hb6 q0;have q1:=keepE hb6 q1;have q2:=keepE hb6 q2;have q3:=keepE hb6 q3;have q4:=keepE hb6 q4;have p0:=keepE hb6 p0;have p1:=keepE hb6 p1;have p2:=keepE hb6 p2;have p3:=keepE hb6 p3;have p4:=keepE hb6 p4;clear hb6) |fail)
 go_upto_region 7 with (first |(go_at_call 20;(with_reducible refine (HCB.out _).mono ?_);rintro e w7 ⟨rfl,hb7⟩;have HB7:=Lib.hid (Below.trans HB6.out (hb7.mono HB6.out.size));have q0:=keepE hb7 q0;have q1:=keepE hb7 q1;have q2:=keepE hb7 q2;have q3:=keepE hb7 q3;have q4:=keepE hb7 q4;have p0:=keepE hb7 p0;have p1:=keepE hb7 p1;have p2:=keepE hb7 p2;have p3:=keepE hb7 p3;have p4:=keepE hb7 p4;clear hb7) |fail)
 go_upto_region 8 with (first |(go_at_call 21;(with_reducible refine (HDA.out _).mono ?_);rintro e w8 ⟨rfl,hb8⟩) |fail)
 have hM:=Blk.newA w8 43 #[.int .i64 a.f0,.int .i64 a.f1,.int .i64 a.f2,.int .i64 a.f3,.string a.f4] (rcells a) rfl;have hb9:=hb8.alloc hb8.size (.cells #[.int .i64 a.f0,.int .i64 a.f1,.int .i64 a.f2,.int .i64 a.f3,.string a.f4] 43);have HB9:=Lib.hid (Below.trans HB7.out (hb9.mono HB7.out.size));have q0:=keepE hb9 q0;have q1:=keepE hb9 q1;have q2:=keepE hb9 q2;have q3:=keepE hb9 q3;have q4:=keepE hb9 q4;have p0:=keepE hb9 p0;have p1:=keepE hb9 p1;have p2:=keepE hb9 p2;have p3:=keepE hb9 p3;have p4:=keepE hb9 p4;clear hb8 hb9 HB4 HA4 HBb HDA HCA HCB HB6 HB7;generalize w8.alloc (.cells #[.int .i64 a.f0,.int .i64 a.f1,.int .i64 a.f2,.int .i64 a.f3,.string a.f4] 43)=w9 at*
 generalize w8.heap.size=bm at*
 have m0:=hM.cell (j:=0) rfl;have m1:=hM.cell (j:=1) rfl;have m2:=hM.cell (j:=2) rfl;have m3:=hM.cell (j:=3) rfl;have m4:=hM.cell (j:=4) rfl;have hES:=HES.out;have hER:=HER.out;have hza:=HZ.out;have eA:(a.f0==a.f0&&(a.f1==a.f1&&(a.f2==a.f2&&(a.f3==a.f3&&(a.f4.toList==a.f4.toList)))))=true:=by simp
 go_upto_region 10 with (fail)
 have hN1:Q=false->(((sb.extract 0 sa.size).toList==sa.toList)=false):=fun hq=>beq_eq_false_iff_ne.2 (fun h=>HP.out.1 hq (tl_inj.1 h))
 have hN2:Q=false->(((sa.extract 0 sb.size).toList==sb.toList)=false):=fun hq=>beq_eq_false_iff_ne.2 (fun h=>HP.out.2 hq (tl_inj.1 h))
 have HN:=Lib.hid (And.intro hN1 hN2);clear hN1 hN2;clear m0 m1 m2 m3 m4 hM hES;obtain⟨kn,hkn⟩:∃k:Nat,kk=(k:Int):=⟨kk.toNat,by have:=HK.out.2;omega⟩
 have hkl:kn<sa.size:=by have:=HK.out.2;omega
 obtain⟨k1,hk1⟩:∃k,kn+1=k:=⟨_,rfl⟩
 have hwk:IntKind.i64.wrap ((kn:Int)+1)=(k1:Int):=by rw[IntWalk.i64_in _ (by omega)];omega
 have fk:(kn:Int)<=(sa.size:Int):=by omega
 have fk1:(k1:Int)<=(sa.size:Int):=by omega
 obtain⟨mN,hmN⟩:∃m:Nat,(if (60:Int)<(text.size:Int) then (60:Int) else (text.size:Int))=(m:Int):=⟨(if (60:Int)<(text.size:Int) then (60:Int) else (text.size:Int)).toNat,by split<;>omega⟩
 have hmt:mN<=text.size∧mN<=60:=by split at hmN<;>omega
 have fm:(mN:Int)<=(text.size:Int):=by omega
 have HKN:=Lib.hid (And.intro hkn (And.intro hkl hmt));have hpk:=HK.out.1;rw[hkn] at hpk;have HPK:=Lib.hid hpk;clear hkn hkl hk1 hmt hpk;have hcmp:(decide ((sa.size:Int)<=(sb.size:Int))=true∧decide ((sb.size:Int)<=(sa.size:Int))=true∧(sa.size:Int)<=(sb.size:Int)∧(sb.size:Int)<=(sa.size:Int))∨(decide ((sa.size:Int)<=(sb.size:Int))=true∧decide ((sb.size:Int)<=(sa.size:Int))=false∧(sa.size:Int)<=(sb.size:Int)∧True)∨(decide ((sa.size:Int)<=(sb.size:Int))=false∧decide ((sb.size:Int)<=(sa.size:Int))=true∧True∧(sb.size:Int)<=(sa.size:Int)):=by
  simp only[decide_eq_true_eq,decide_eq_false_iff_not,and_true,true_and];omega
 cases Q
 case' false=>
  have n1:=HN.out.1 rfl;have n2:=HN.out.2 rfl;rcases hcmp with ⟨d1,d2,f1,f2⟩ |⟨d1,d2,f1,f2⟩ |⟨d1,d2,f1,f2⟩
 all_goals go_upto_region 12 with (fail)
 all_goals
  clear HN HP HES HER hER eA p0 p1 p2 p3 p4 q0 q1 q2 q3 q4
  (try clear n1 n2 d1 d2 f1 f2);(try clear hcmp)
  go_upto_region 13 with (first |(go_at_call 16;(with_reducible refine (lpick_d pl (sa.size:Int) i5 (by have:=HZ.out;omega) (kn:Int) HPK.out _).mono ?_);rintro e w10 ⟨rfl,h10⟩;subst h10) |fail)
  refine start_ (n:=20) (S:=fun w'=>True) (ds:=[]) (bb 20 0) (by kernel_rfl) rfl rfl trivial (fun hHeld=>?_);generalize hwd:w10.drew=wd at*
  refine run_ [.p 0,.p 1,.p 2,.p 3,.p 4,.p 5,.p 6,.p 7,.p 8,.p 12,.p 13,.p 14,.p 15,.p 19] ?_
  repeat (first |(refine p0_ (v:=?_) (a':=?_) rfl rfl (by kernel_rfl) (fun _ _ _ h=>h) (by rfl) ?_ ?_ ?_;rotate_left;(intro w';go_simp;with_reducible rfl);rotate_left;(simp only[Act.put,z1,z2,z3,i64_w,i32_w];rfl)) |fail)
  refine ran_ (m':=586239) rfl ?_;refine one_ (i:=9) (N:=some 128) (bb 20 586751) rfl rfl (by kernel_rfl) (by decide) (fun K hK=>?_);refine Kd.R_lit_step (Kd.int .u8) _ 5 ?hg (N:=128) ?hd (xs:=([c]:List Int)) (inner:=[.int .u8 c]) (ok:=fun _=>True) (okp:=fun _=>True) ?hr ?hp (fun _ hk=>hk) trivial (Below.refl _ _) (Nat.le_refl _) (by simp) ?_;(case hd=>rfl);(case hg=>rfl);(case hr=>first |(go_simp;done) |(go_simp;rfl));(case hp=>exact (Reps.one (show Kd.M (Kd.int .u8) _ _ _ c [.int .u8 c] from rfl) (Reps.none _ _)))
  intro v11 w11 ho11 hb11 hg11 hn11;refine hK.out _ _ trivial (fun hHeld=>?_);clear hK K hg11 hn11;refine norm_ (a':=?_) ?_ ?_
  rotate_left
  ·show Act.put _ (some 128) _=_
   simp only[Act.put,z1,z2,z3,i64_w,i32_w];rfl
  refine one_ (i:=10) (N:=some 129) (bb 20 587775) rfl rfl (by kernel_rfl) (by decide) (fun K hK=>?_);have hcv:=own_string (P:=Tryd.prog) Tryd.underlying48 Tryd.underlying5 Tryd.underlying9 (Kd.own_of_R ho11);refine value_ (w1:=?_) (v:=?_) (by rfl) rfl ?_ ?_
  rotate_left 2
  ·go_simp
   constructor
   ·rfl
   ·rfl
  clear hcv ho11;refine hK.out _ _ trivial (fun hHeld=>?_);clear hK K;refine norm_ (a':=?_) ?_ ?_
  rotate_left
  ·show Act.put _ (some 129) _=_
   simp only[Act.put,z1,z2,z3,i64_w,i32_w];rfl
  have HBD:=Lib.hid (show Below w10.heap.size w10 w11 from by
   have h:=below_drew1 (Below.refl w10.heap.size w10);rw[hwd] at h;exact Below.trans h (hb11.mono h.size))
  clear hb11 hwd;have hU0:(text.extract 0 mN).size<=300:=by rw[ByteArray.size_extract];have:=HKN.out.2.2.2;omega
  have hU1:(sa.extract 0 kn).size<=300:=by rw[ByteArray.size_extract];have:=HZ.out.1.2;omega
  have hU3:(sa.extract k1 sa.size).size<=300:=by rw[ByteArray.size_extract];have:=HZ.out.1.2;omega
  have hU2:(strOfNums [c]).size<=300:=by show 1<=300;omega
  generalize text.extract 0 mN=u0 at*
  generalize sa.extract 0 kn=u1 at*
  generalize strOfNums [c]=u2 at*
  generalize sa.extract k1 sa.size=u3 at*
  have e1:(9223372036854775807<u1.size+u2.size)=False:=eq_false (by omega);have e2:(9223372036854775807<u1.size+u2.size+u3.size)=False:=eq_false (by omega);have hz2:((u1++u2)++u3).size<=900:=by rw[ByteArray.size_append,ByteArray.size_append];omega
  refine run_ [.p 11,.p 16] ?_
  repeat (first |(refine p0_ (v:=?_) (a':=?_) rfl rfl (by kernel_rfl) (fun _ _ _ h=>h) (by rfl) ?_ ?_ ?_;rotate_left;(intro w';go_simp;with_reducible rfl);rotate_left;(simp only[Act.put,z1,z2,z3,i64_w,i32_w];rfl)) |fail)
  refine ran_ (m':=655359) rfl ?_;have HU:=Lib.hid (And.intro hU0 hz2);clear e1 e2 hU0 hU1 hU2 hU3 hz2;generalize (u1++u2)++u3=z' at*
  refine one_ (i:=17) (N:=some 136) (bb 20 786431) rfl rfl (by kernel_rfl) (by decide) (fun K hK=>?_);refine value_ (w1:=?_) (v:=?_) (by rfl) rfl ?_ ?_
  rotate_left 2
  ·go_simp
   constructor
   ·rfl
   ·rfl
  refine hK.out _ _ trivial (fun hHeld=>?_);clear hK K;refine norm_ (a':=?_) ?_ ?_
  rotate_left
  ·show Act.put _ (some 136) _=_
   simp only[Act.put,z1,z2,z3,i64_w,i32_w];rfl
  refine run_ [.p 18] ?_
  repeat (first |(refine p0_ (v:=?_) (a':=?_) rfl rfl (by kernel_rfl) (fun _ _ _ h=>h) (by rfl) ?_ ?_ ?_;rotate_left;(intro w';go_simp;with_reducible rfl);rotate_left;(simp only[Act.put,z1,z2,z3,i64_w,i32_w];rfl)) |fail)
  refine ran_ (m':=1048575) rfl ?_;refine done_ (by kernel_rfl) ?_;have hL:=Blk.newA w11 9 #[.string u0,.string z'] [.string u0,.string z'] rfl;have hB12:=(Below.trans HB9.out (HBD.out.mono HB9.out.size)).alloc (Nat.le_trans HB9.out.size HBD.out.size) (.cells #[.string u0,.string z'] 9);clear HB9 HBD hHeld fk fk1 fm hwk hmN hz;generalize w11.alloc (.cells #[.string u0,.string z'] 9)=w12 at*
  generalize w11.heap.size=L at*
  go_wp2
  go_loopw [138] (fun i wr=>∃k:Nat,k<=2∧i=.int .i64 (k:Int)∧Blk wr L 9 [.string u0,.string z']∧Below w.heap.size w wr) (fun i wr=>2 - (intOf i).toNat)
  case atStart=>exact⟨0,by omega,rfl,hL,hB12⟩
  case round=>
   clear hL hB12;obtain⟨k,hk,rfl,hLr,hBr⟩:=hrel
   by_cases hlt:k<2
   ·have d1:decide ((k:Int)<2)=true:=decide_eq_true (by omega);have hki:(k:Int)<2:=by omega
    obtain⟨z,hz,hzs⟩:∃z:ByteArray,[Value.string u0,Value.string z'][k]?=some (.string z)∧z.size<=1000:=by
     match k,hlt with
     |0,_=>exact⟨u0,rfl,by have:=HU.out.1;omega⟩
     |1,_=>exact⟨z',rfl,by have:=HU.out.2;omega⟩
    have x0:=hLr.cell hz;obtain⟨r,h,hd⟩:∃r h,decF z=(r,h):=⟨_,_,rfl⟩
    have HD:Hid (∀W,Calls Tryd.prog 21 #[.string z] W fun e w'=>e=.returned (.tuple #[.agg #[.int .i64 r.f0,.int .i64 r.f1,.int .i64 r.f2,.int .i64 r.f3,.string r.f4],.int .i64 h])∧Below W.heap.size W w'):=Lib.hid (fun W=>by
     have:=decode_walk z (by omega) W
     rwa [hd] at this)
    have HE:Hid (h=0->∀W,Calls Tryd.prog 20 #[.agg #[.int .i64 r.f0,.int .i64 r.f1,.int .i64 r.f2,.int .i64 r.f3,.string r.f4]] W fun e w'=>e=.returned (.tuple #[.string z,.int .i64 0])∧Below W.heap.size W w'):=Lib.hid (fun h0 W=>by
     obtain⟨e1,e2⟩:=enc_dec (z:=z) (by omega) (by rw[hd];exact h0);rw[hd] at e1 e2;rw[<-e2];exact encode_ok r e1 W)
    have HKL:=Lib.hid hlt;have HLR:=Lib.hid hLr;have HBR:=Lib.hid hBr;clear hz hzs hd hLr hBr
    go_upto_region 17 with (first |(go_at_call 21;(with_reducible refine (HD.out _).mono ?_);rintro e w13 ⟨rfl,hb13⟩) |fail)
    have hR:=Blk.newA w13 43 #[.int .i64 r.f0,.int .i64 r.f1,.int .i64 r.f2,.int .i64 r.f3,.string r.f4] (rcells r) rfl;have hb14:=hb13.alloc hb13.size (.cells #[.int .i64 r.f0,.int .i64 r.f1,.int .i64 r.f2,.int .i64 r.f3,.string r.f4] 43);have HL14:=Lib.hid (HLR.out.belowS hb14);have HB14:=Lib.hid (Below.trans HBR.out (hb14.mono HBR.out.size));clear hb13 hb14 HD HLR HBR x0;generalize w13.alloc (.cells #[.int .i64 r.f0,.int .i64 r.f1,.int .i64 r.f2,.int .i64 r.f3,.string r.f4] 43)=w14 at*
    generalize w13.heap.size=rb at*
    by_cases hh:h=0
    ·subst hh;have r0:=hR.cell (j:=0) rfl;have r1:=hR.cell (j:=1) rfl;have r2:=hR.cell (j:=2) rfl;have r3:=hR.cell (j:=3) rfl;have r4:=hR.cell (j:=4) rfl;clear hR
     go_wp2_with (first |(go_at_call 20;(with_reducible refine (HE.out rfl _).mono ?_);rintro e w15 ⟨rfl,hb15⟩;have HL15:=Lib.hid (HL14.out.belowS hb15);have HB15:=Lib.hid (Below.trans HB14.out (hb15.mono HB14.out.size));clear hb15) |fail)
     go_roundw
     case rel=>exact⟨k+1,HKL.out,by go_num,HL15.out,HB15.out⟩
     case measure=>simp[intOf];omega
    ·have d2:(h !=0)=true:=by simpa using hh
     clear hR
     go_wp2
     go_roundw
     case rel=>exact⟨k+1,HKL.out,by go_num,HL14.out,HB14.out⟩
     case measure=>simp[intOf];omega
   ·obtain rfl:k=2:=by omega
    have d1:decide (((2:Nat):Int)<2)=false:=decide_eq_false (by omega)
    go_wp2
    go_ret
    exact⟨rfl,hBr⟩
end Go.Proofs.YtfdlmpicmkpabaaDoor.LbSpec
end
