import Derived.Test.YtfdlmpicmkpabaaDoorMLogbookStaysbk
import Derived.Test.YtfdlmpicmkpabaaDoorMLogbookStaysbl
import Derived.Test.YtfdlmpicmkpabaaDoorMLogbookStaysam
import Derived.Test.YtfdlmpicmkpabaaDoorMLogbookStaysag
import Derived.Deep.LoopGhost
import Derived.Lib.Hide
/-
  Texts of this claim, one behind the other: what they prove stands above each.
-/
set_option linter.unusedVariables false
set_option linter.unusedSimpArgs false
section
namespace Go.Proofs.YtfdlmpicmkpabaaDoor.LbSpec
set_option maxRecDepth 100000
open Go.RowKit Go.Proofs.YtfdlmpicmkpabaaDoorW.PrintWords Go.Proofs.YtfdlmpicmkpabaaDoorW.PrintLast Go.Proofs.YtfdlmpicmkpabaaDoorW.PrintMore Go.Proofs.YtfdlmpicmkpabaaDoor.Ext
set_option maxRecDepth 100000
theorem rec_rd{rs:List Rec}{i:Nat}{x:Rec}(h:rs[i]?=some x):rd_T43 rs (i:Int)=x:=by
 unfold rd_T43;rw[Int.toNat_natCast,List.getD_eq_getElem?_getD,h];rfl
theorem lastAt_rd:∀(rs:List Rec) (a:Int),0<rs.length->(rd_T43 rs ((rs.length - 1:Nat):Int)).f0=lastAt a rs:=by
 intro rs a h;rcases List.eq_nil_or_concat rs with rfl |⟨l,x,rfl⟩
 ·simp at h
 ·rw[List.concat_eq_append,lastAt_snoc,rec_rd (x:=x) (by simp)]
theorem valid_snoc{st:Int}{rs:List Rec}{r:Rec}(h1:okFrom 0 rs=true)(h2:recB r=true)(h3:lastAt 0 rs<=r.f0)(h4:rs.length<=59)(h5:0<=st∧st<=99):validB st (rs++[r])=true:=by
 unfold validB;rw[okFrom_snoc,h1,h2,decide_eq_true h3,decide_eq_true h5,decide_eq_true (by rw[List.length_append];show rs.length+1<=60;omega)];rfl
theorem recsB_snoc(rs:List Rec)(r:Rec):recsB (rs++[r])=(rs.length,r)::recsB rs:=by
 unfold recsB;rw[List.length_append,List.length_singleton,List.range_succ,List.reverse_append,List.reverse_singleton,List.singleton_append,List.map_cons,rec_rd (x:=r) (by simp)];congr 1;apply List.map_congr_left;intro i hi;have hi:i<rs.length:=by simpa using hi
 rw[rec_rd (x:=rs[i]) (by rw[List.getElem?_append_left hi,List.getElem?_eq_getElem hi]),rec_rd (x:=rs[i]) (List.getElem?_eq_getElem hi)]
theorem last_cons(K T:Int)(n:Nat)(r:Rec)(l:List (Nat × Rec)):lastOf K T ((n,r)::l)=if hit K T r=true then (n:Int) else lastOf K T l:=by
 unfold lastOf
 by_cases h:hit K T r=true
 ·rw[if_pos h,List.find?_cons_of_pos (p:=fun p:Nat × Rec=>hit K T p.2) (by exact h)]
 ·rw[if_neg h,List.find?_cons_of_neg (p:=fun p:Nat × Rec=>hit K T p.2) (by exact h)]
theorem C_prefix{α:Type}{d:Kd α}{w:World}{A:Option Addr}{xs ys:List α}(h:Kd.C d w A (xs++ys).length (xs++ys)):Kd.C d w A xs.length xs:=by
 obtain⟨h1,h2,h3⟩:=h;rw[List.length_append] at h2 h3;refine⟨rfl,by omega,fun hp=>?_⟩;obtain⟨ad,e,hc⟩:=h3 (by omega);exact⟨ad,e,fun j p hj=>hc j p (by rw[List.getElem?_append_left (List.getElem?_eq_some_iff.1 hj).1];exact hj)⟩
theorem same_l0(rs:List Rec)(hl:rs.length<=1000):∀(d i k:Nat),d=rs.length - i->i<=rs.length->d<k->PL.aircheckref35_SameRecords.l0 k rs rs (i:Int)=some true:=by
 intro d
 induction d with
 |zero=>
  intro i k hd hi hk;obtain⟨k,rfl⟩:∃q,k=q+1:=⟨k - 1,by omega⟩
  rw[PL.aircheckref35_SameRecords.l0,if_neg (by omega)]
 |succ d ih=>
  intro i k hd hi hk;obtain⟨k,rfl⟩:∃q,k=q+1:=⟨k - 1,by omega⟩
  have c1:(i:Int)<(rs.length:Int):=by omega
  have e2:wrap64 ((i:Int)+1)=((i+1:Nat):Int):=by rw[w64' (by omega) (by omega)];omega
  rw[PL.aircheckref35_SameRecords.l0,if_pos c1,if_pos (Int.natCast_nonneg i),if_pos c1,if_neg (by simp),e2];exact ih (i+1) k (by omega) (by omega) (by omega)
theorem same_walk(A A':Option Addr)(n c c':Nat)(rs:List Rec)(hl:rs.length=n)(hn:n<=1000)(w:World)(h0:Kd.C kRec w A n rs)(hc:n<=c)(h1:Kd.C kRec w A' n rs)(hc':n<=c'):
  Calls Tryd.prog 33 #[.slice A n c,.slice A' n c'] w fun e w'=>e=.returned (.bool true)∧Below w.heap.size w w':=by
 subst hl;refine (PL.aircheckref35_SameRecords.calls 1001 A c rs A' c' rs true w h0 hc h1 hc' ?_).mono fun e w' ⟨he,hd⟩=>⟨he,hd.below⟩
 unfold PL.aircheckref35_SameRecords.f;rw[if_pos rfl];exact same_l0 rs hn rs.length 0 1001 (by omega) (by omega) (by omega)
theorem lpick_same(c n:Int)(hc:In c)(hn:0<n)(r:Int)(hr:pkN c n=r)(w:World):Calls Tryd.prog 16 #[.int .i64 c,.int .i64 n] w fun e w'=>e=.returned (.int .i64 r)∧w'=w:=by
 have hn0:¬n=0:=by omega
 subst hr;unfold pkN
 by_cases h:c<0
 ·have e1:wrap64 (-(c+1))= -(c+1):=by unfold wrap64;omega
  have e2:Int.tmod (-(c+1)) n=(-(c+1))%n:=Int.tmod_eq_emod_of_nonneg (by omega);rw[if_pos h, <-e2];clear e2
  go_enter Tryd.func16,Tryd.ntmps16
  go_wp2
  go_ret
  exact⟨by first |rfl |(simp;done) |(simp[*];done),rfl⟩
 ·have h0:0<=c:=by omega
  have hn1:0<=n:=by omega
  rw[if_neg h]
  go_enter Tryd.func16,Tryd.ntmps16
  go_wp2
  go_ret
  exact⟨by first |rfl |(simp;done) |(simp[*];done),rfl⟩
attribute [local go_sem] Oper.semAt_some
attribute [local go_sem high] PB.eqA43
set_option maxHeartbeats 4000000 in
theorem stays_walk(a0:Int)(A1:Option Addr)(n1 c1:Nat)(l1:List Five)(hl:l1.length=n1)(a2 y0 y1 y2 y3 a4 a5:Int)(i0:In a0)(i1:∀x ∈ l1,inFive x)(i2:In a2)(j0:In y0)(j1:In y1)(j2:In y2)(j3:In y3)(i4:In a4)(i5:In a5)
  (w:World) (hG:GL w) (hC:Kd.C k75 w A1 n1 l1) (hc:n1<=c1):
  Calls Tryd.prog 6 #[.int .i64 a0,.slice A1 n1 c1,.int .i64 a2,.agg #[.int .i64 y0,.int .i64 y1,.int .i64 y2,.int .i64 y3],.int .i64 a4,.int .i64 a5] w fun e w'=>e=.returned (.bool true)∧Below w.heap.size w w':=by
 obtain⟨m1,m2,m3,m4,m5⟩:=made_ok a0 l1;obtain⟨rs,hrs⟩:∃rs,madeF l1=rs:=⟨_,rfl⟩
 obtain⟨st,hst⟩:∃st,pkN a0 100=st:=⟨_,rfl⟩
 obtain⟨q,hq⟩:∃q,pkN a2 50=q:=⟨_,rfl⟩
 obtain⟨qk,hqk⟩:∃q,pkN a4 3=q:=⟨_,rfl⟩
 obtain⟨T,hT⟩:∃q,pkN a5 450=q:=⟨_,rfl⟩
 have bst:=pkN_range a0 100 (by decide);have bq:=pkN_range a2 50 (by decide);have bk:=pkN_range a4 3 (by decide);have bT:=pkN_range a5 450 (by decide);rw[hst] at bst;rw[hq] at bq;rw[hqk] at bk;rw[hT] at bT;rw[hrs] at m1 m2 m3 m4 m5;rw[hst] at m5;obtain⟨n,hn⟩:∃n,rs.length=n:=⟨_,rfl⟩
 rw[hn] at m2;obtain⟨K,hK⟩:∃k,1+qk=k:=⟨_,rfl⟩
 have hwK:IntKind.i64.wrap (1+qk)=K:=by rw[<-hK];exact IntWalk.i64_in _ (by omega)
 have hmade:=made_walk a0 i0 A1 n1 c1 l1 hl i1;rw[hst,hrs] at hmade;have HMW:=Lib.hid hmade;have HQ:=Lib.hid hq;have HQK:=Lib.hid hqk;have HT:=Lib.hid hT;have HN:=Lib.hid hn;have HM:=Lib.hid (And.intro m1 (And.intro m3 (And.intro m4 m5)));have HB:=Lib.hid (And.intro bst (And.intro bq (And.intro bk bT)));have HC:=Lib.hid hC;have HG:=Lib.hid hG;clear hst hrs hq hqk hT hn hK m1 m3 m4 m5 bst bq bk bT hmade hC hG hl;have hb0:=(Below.refl w.heap.size w).alloc (Nat.le_refl _) (.cells #[.int .i64 y0,.int .i64 y1,.int .i64 y2,.int .i64 y3] 41);have hY:=Blk.newA w 41 #[.int .i64 y0,.int .i64 y1,.int .i64 y2,.int .i64 y3] [.int .i64 y0,.int .i64 y1,.int .i64 y2,.int .i64 y3] rfl;have HB0:=Lib.hid hb0;have HY:=Lib.hid hY;clear hb0 hY
 go_enter Tryd.func6,Tryd.ntmps6
 go_upto_region 3 with (first |(go_at_call 9;(with_reducible refine (airchecklaw35_sane.calls true _ (HG.out.below HB0.out) rfl).mono ?_);rintro e w1 ⟨rfl,hb1⟩;have HB1:=Lib.hid (Below.trans HB0.out (hb1.mono HB0.out.size));have HY1:=Lib.hid (HY.out.belowS hb1);clear hb1) |fail)
 go_upto_region 4 with (first |(go_at_call 10;(with_reducible refine (HMW.out _ (Kd.C_below HC.out HB1.out) hc).mono ?_);rintro e w2 ⟨v,rfl,hR,hb2⟩;obtain⟨A,c,rfl⟩:=Kd.R_slice hR;rw[HN.out];have HR2:=Lib.hid hR;have HB2:=Lib.hid (Below.trans HB1.out (hb2.mono HB1.out.size));have HY2:=Lib.hid (HY1.out.belowS hb2);clear hb2 hR) |fail)
 have hL3:=Blk.newA w2 26 #[.int .i64 st,.slice A n c] [.int .i64 st,.slice A n c] rfl;have hY3:=HY2.out.alloc (.cells #[.int .i64 st,.slice A n c] 26);have hB3:=HB2.out.alloc HB2.out.size (.cells #[.int .i64 st,.slice A n c] 26);have hR3:=Kd.R_alloc HR2.out (.cells #[.int .i64 st,.slice A n c] 26);generalize w2.alloc (.cells #[.int .i64 st,.slice A n c] 26)=w3 at*
 obtain⟨bl,hbl⟩:∃bl,w2.heap.size=bl:=⟨_,rfl⟩
 rw[hbl] at hL3 ⊢;have hC3:=Kd.R_reads' hR3;rw[HN.out] at hC3;obtain⟨_,hcn,hC3⟩:=hC3;have HL3:=Lib.hid hL3;have HY3:=Lib.hid hY3;have HB3:=Lib.hid hB3;have HC3:=Lib.hid hC3;clear hL3 hY3 hB3 hR3 hC3 hbl HR2 HB2 HY2 HY1 HB1 HY HB0 HC HMW w2 w1;have l0:=HL3.out.cell (j:=0) rfl;have l1':=HL3.out.cell (j:=1) rfl;obtain⟨T0,hT0⟩:∃t,(if 0<n then q+lastAt 0 rs else q)=t:=⟨_,rfl⟩
 have HT0:=Lib.hid hT0;have ht0i:In T0∧0<=T0∧T0<=10000000∧lastAt 0 rs<=T0:=by
  have h1:=HM.out.2.1;have h2:=HM.out.2.2.1;have h3:=HB.out.2.1;rw[<-hT0]
  split
  ·refine⟨?_,?_,?_,?_⟩<;>first |(constructor<;>omega) |omega
  ·rename_i hz;have:rs=[]:=List.eq_nil_of_length_eq_zero (by rw[HN.out];omega);rw[this]
   show In q∧0<=q∧q<=10000000∧(0:Int)<=q
   refine⟨?_,?_,?_,?_⟩<;>first |(constructor<;>omega) |omega
 have HTI:=Lib.hid ht0i;clear ht0i hT0
 go_upto_region 5 with (first |(go_at_call 16;(with_reducible refine (lpick_same a2 50 i2 (by decide) q HQ.out _).mono ?_);rintro e w9 ⟨rfl,h9⟩;subst h9) |fail)
 by_cases hn0:0<n
 case' pos=>
  have d1:decide ((n:Int)>0)=true:=decide_eq_true (by omega);obtain⟨mm,hmm⟩:∃m,n - 1=m:=⟨_,rfl⟩
  have hwm:IntKind.i64.wrap ((n:Int) - 1)=(mm:Int):=by rw[IntWalk.i64_in _ (by omega)];omega
  have hm1:(mm:Int)<(n:Int):=by omega
  obtain⟨ad,rfl,x0,_⟩:=at_T43 HC3.out (mm:Int) (by omega) hm1;rw[Int.toNat_natCast] at x0;have hla:=lastAt_rd rs 0 (by rw[HN.out];exact hn0);rw[HN.out,hmm] at hla;rw[hla] at x0;obtain⟨la,hla2⟩:∃a,lastAt 0 rs=a:=⟨_,rfl⟩
  have hw0:IntKind.i64.wrap (q+la)=T0:=by
   have h1:=HTI.out.1;have h2:=HT0.out;rw[if_pos hn0,hla2] at h2;rw[h2];exact IntWalk.i64_in _ (by omega)
  rw[hla2] at x0;clear hla hla2 hmm
  go_upto_region 7 with (first |fail)
  clear x0;generalize some ad=A at*
 case' neg=>
  have d1:decide ((n:Int)>0)=false:=decide_eq_false (by omega);have hq0:q=T0:=by
   have h2:=HT0.out;rw[if_neg hn0] at h2;exact h2
  rw[hq0]
  go_upto_region 7 with (first |fail)
  clear hq0
 all_goals
  have c0:=HY3.out.cell (j:=0) rfl;have c1:=HY3.out.cell (j:=1) rfl;have c2:=HY3.out.cell (j:=2) rfl;have c3:=HY3.out.cell (j:=3) rfl;obtain⟨r,hr⟩:∃r,entF T0 y0 y1 y2 y3=r:=⟨_,rfl⟩
  have hrB:recB r=true:=by rw[<-hr];exact (entF_ok _ _ _ _ _).1
  have hr0:r.f0=T0:=by
   rw[<-hr];exact pkN_id HTI.out.2.1 (by have:=HTI.out.2.2.1;omega)
  have hadd:addF st rs r=(st,rs++[r],0):=by
   unfold addF;rw[HM.out.2.2.2,valid_snoc HM.out.1 hrB (by rw[hr0];exact HTI.out.2.2.2) (by rw[HN.out];omega) (by have:=HB.out.1;omega)];rfl
  have hv2:validB st (rs++[r])=true:=valid_snoc HM.out.1 hrB (by rw[hr0];exact HTI.out.2.2.2) (by rw[HN.out];omega) (by have:=HB.out.1;omega);have HEN:Hid (∀W,Calls Tryd.prog 19 #[.int .i64 T0,.agg #[.int .i64 y0,.int .i64 y1,.int .i64 y2,.int .i64 y3]] W fun e w'=>e=.returned (rval r)∧Below W.heap.size W w'):=Lib.hid (fun W=>by
   have:=entry_walk T0 y0 y1 y2 y3 HTI.out.1 j0 j1 j2 j3 W
   rwa [hr] at this)
  have HADD:Hid (∀(W:World),Kd.C kRec W A n rs->Calls Tryd.prog 24 #[.agg #[.int .i64 st,.slice A n c],.agg #[.int .i64 r.f0,.int .i64 r.f1,.int .i64 r.f2,.int .i64 r.f3,.string r.f4]] W fun e w'=>∃v1_:Value,e=.returned (.tuple #[.agg #[.int .i64 st,v1_],.int .i64 0])∧Kd.R kRec 43 w' W.heap.size (fun _=>True) v1_ (rs++[r])∧Below W.heap.size W w'):=Lib.hid (fun W hW=>by
   have hl:=HN.out;subst hl;exact logbook_Add.calls st A c rs r.f0 r.f1 r.f2 r.f3 r.f4 st (rs++[r]) 0 W hW hcn (by unfold logbook_Add.f;rw[if_pos (by unfold few6;omega)];exact congrArg some hadd))
  have HR0:=Lib.hid hr0;have HV2:=Lib.hid hv2;clear hr hrB hr0 hadd hv2
  go_upto_region 8 with (first |(go_at_call 19;(with_reducible refine (HEN.out _).mono ?_);rintro e w4 ⟨rfl,hb4⟩) |fail)
  have HL4:=Lib.hid ((HL3.out.belowS hb4).alloc (.cells #[.int .i64 r.f0,.int .i64 r.f1,.int .i64 r.f2,.int .i64 r.f3,.string r.f4] 43));have HRc:=Lib.hid (Blk.newA w4 43 #[.int .i64 r.f0,.int .i64 r.f1,.int .i64 r.f2,.int .i64 r.f3,.string r.f4] (rcells r) rfl);have HC4:=Lib.hid (Kd.C_below (Kd.C_below HC3.out hb4) ((Below.refl _ _).alloc (Nat.le_refl _) (.cells #[.int .i64 r.f0,.int .i64 r.f1,.int .i64 r.f2,.int .i64 r.f3,.string r.f4] 43)));have HB4:=Lib.hid ((Below.trans HB3.out (hb4.mono HB3.out.size)).alloc (Nat.le_trans HB3.out.size hb4.size) (.cells #[.int .i64 r.f0,.int .i64 r.f1,.int .i64 r.f2,.int .i64 r.f3,.string r.f4] 43));clear HEN hb4 c0 c1 c2 c3 l0 l1' HL3 HC3 HB3 HY3;generalize w4.alloc (.cells #[.int .i64 r.f0,.int .i64 r.f1,.int .i64 r.f2,.int .i64 r.f3,.string r.f4] 43)=w5 at*
  generalize w4.heap.size=br at*
  have l0:=HL4.out.cell (j:=0) rfl;have l1':=HL4.out.cell (j:=1) rfl;have q0:=HRc.out.cell (j:=0) rfl;have q1:=HRc.out.cell (j:=1) rfl;have q2:=HRc.out.cell (j:=2) rfl;have q3:=HRc.out.cell (j:=3) rfl;have q4:=HRc.out.cell (j:=4) rfl;obtain⟨N1,hN1⟩:∃m:Nat,n+1=m:=⟨_,rfl⟩
  have hlen:(rs++[r]).length=N1:=by rw[List.length_append,HN.out];exact hN1
  have HLN:=Lib.hid hlen
  go_upto_region 9 with (first |(go_at_call 24;(with_reducible refine (HADD.out _ HC4.out).mono ?_);rintro e w6 ⟨v6,rfl,hR6,hb6⟩;obtain⟨A6,c6,rfl⟩:=Kd.R_slice hR6;rw[HLN.out] at hR6 ⊢) |fail)
  have hw1:IntKind.i64.wrap ((n:Int)+1)=(N1:Int):=by rw[IntWalk.i64_in _ (by omega)];omega
  have hM7:=Blk.newA w6 26 #[.int .i64 st,.slice A6 N1 c6] [.int .i64 st,.slice A6 N1 c6] rfl;have hb7:Below w5.heap.size w5 (w6.alloc (.cells #[.int .i64 st,.slice A6 N1 c6] 26)):=hb6.alloc hb6.size _;have hR7:=Kd.R_alloc hR6 (.cells #[.int .i64 st,.slice A6 N1 c6] 26);generalize w6.alloc (.cells #[.int .i64 st,.slice A6 N1 c6] 26)=w7 at*
  generalize w6.heap.size=bm at*
  obtain⟨hn6,hc6,hC6⟩:=Kd.R_reads' hR7;rw[HLN.out] at hn6 hC6;have hCp:Kd.C kRec w7 A6 n rs:=by
   have:=C_prefix (xs:=rs) (ys:=[r]) (by rw[HLN.out];exact hC6)
   rwa [HN.out] at this
  obtain⟨ad6,rfl,z0,z1',z2',z3',z4'⟩:=at_T43 hC6 (n:Int) (by omega) (by omega);rw[Int.toNat_natCast,rec_rd (x:=r) (by rw[<-HN.out];simp)] at z0 z1' z2' z3' z4';have hL7:=HL4.out.belowS hb7;have hRc7:=HRc.out.belowS hb7;have hC7:=Kd.C_below HC4.out hb7;have l0:=hL7.cell (j:=0) rfl;have l1':=hL7.cell (j:=1) rfl;have q0:=hRc7.cell (j:=0) rfl;have q1:=hRc7.cell (j:=1) rfl;have q2:=hRc7.cell (j:=2) rfl;have q3:=hRc7.cell (j:=3) rfl;have q4:=hRc7.cell (j:=4) rfl;have k0:=hM7.cell (j:=0) rfl;have k1:=hM7.cell (j:=1) rfl;have hcap:n<=c6:=by omega
  have hcapi:(n:Int)<=(c6:Int):=by omega
  have hnN:(n:Int)<(N1:Int):=by omega
  have HBM:=Lib.hid (Below.trans HB4.out (hb7.mono HB4.out.size));have H7:=Lib.hid (And.intro hL7 (And.intro hRc7 (And.intro hM7 (And.intro hC7 (And.intro hCp hC6)))));have HCC:=Lib.hid (And.intro hcap (And.intro hcn hc6));clear hR6 hR7 hb6 hb7 hC6 hCp hL7 hRc7 hM7 hC7 HL4 HRc HC4 HB4 hn6 hc6 HADD;refine start_ (n:=42) (S:=fun w'=>w'.cell? ⟨bl,0,none⟩=some (.int .i64 st)∧w'.cell? ⟨bl,1,none⟩=some (.slice A n c)∧w'.cell? ⟨bm,0,none⟩=some (.int .i64 st)∧w'.cell? ⟨bm,1,none⟩=some (.slice (some ad6) N1 c6)∧w'.cell? ⟨br,0,none⟩=some (.int .i64 r.f0)∧w'.cell? ⟨br,1,none⟩=some (.int .i64 r.f1)∧w'.cell? ⟨br,2,none⟩=some (.int .i64 r.f2)∧w'.cell? ⟨br,3,none⟩=some (.int .i64 r.f3)∧w'.cell? ⟨br,4,none⟩=some (.string r.f4)∧w'.cell? (ad6.add (n*5))=some (.int .i64 r.f0)∧w'.cell? ⟨(ad6.add (n*5)).block,(ad6.add (n*5)).off+1,none⟩=some (.int .i64 r.f1)∧w'.cell? ⟨(ad6.add (n*5)).block,(ad6.add (n*5)).off+2,none⟩=some (.int .i64 r.f2)∧w'.cell? ⟨(ad6.add (n*5)).block,(ad6.add (n*5)).off+3,none⟩=some (.int .i64 r.f3)∧w'.cell? ⟨(ad6.add (n*5)).block,(ad6.add (n*5)).off+4,none⟩=some (.string r.f4)) (ds:=[]) (bb 42 0) (by kernel_rfl) rfl rfl ⟨l0,l1',k0,k1,q0,q1,q2,q3,q4,z0,z1',z2',z3',z4'⟩ (fun hHeld=>?_);generalize hwd:w7.drew=wd at*
  refine run_ [.p 0,.p 1,.p 2,.p 3,.t 4,.p 5,.p 6,.t 7,.p 8,.p 9,.p 10,.p 11,.p 12,.p 13,.t 14,.p 15,.t 16,.p 17,.p 18,.p 19,.p 20,.t 21,.p 22,.t 23,.p 24,.p 25,.p 26,.t 27] ?_
  repeat (first |(refine p0_ (v:=?_) (a':=?_) rfl rfl (by kernel_rfl) (fun _ _ _ h=>h) (by rfl) ?_ ?_ ?_;rotate_left;(intro w';go_simp;with_reducible rfl);rotate_left;(simp only[Act.put,z1,z2,z3,i64_w,i32_w];rfl)) |(refine t0_ (v:=?_) (a':=?_) rfl rfl (by kernel_rfl) (fun _ _ _ h=>h) (by rfl) hHeld ?_ ?_ ?_;rotate_left;(rintro w' ⟨s0,s1,s2,s3,s4,s5,s6,s7,s8,s9,s10,s11,s12,s13⟩;go_simp;with_reducible rfl);rotate_left;(simp only[Act.put,z1,z2,z3,i64_w,i32_w];rfl)) |fail)
  refine ran_ (m':=268435455) rfl ?_;have hbd:Below w7.heap.size w7 wd:=by rw[<-hwd];exact below_drew1 (Below.refl _ _)
  refine one_ (i:=28) (N:=some 81) (bb 42 536870911) rfl rfl (by kernel_rfl) (by decide) (fun K hK=>?_);refine goes_ Tryd.func33 (by kernel_rfl) rfl #[.slice (some ad6) n c6,.slice A n c] (by rfl) rfl rfl (by (try simp only[List.map_toArray,List.map_cons,List.map_nil]);first |done |rfl) ?_;refine (same_walk (some ad6) A n c6 c rs HN.out (by omega) _ (Kd.C_below H7.out.2.2.2.2.1 hbd) hcap (Kd.C_below H7.out.2.2.2.1 hbd) hcn).mono ?_
  rintro e w8 ⟨rfl,hb8⟩
  refine⟨_,rfl,?_⟩;refine hK.out _ _ ⟨keepE hb8 hHeld.1,keepE hb8 hHeld.2.1,keepE hb8 hHeld.2.2.1,keepE hb8 hHeld.2.2.2.1,keepE hb8 hHeld.2.2.2.2.1,keepE hb8 hHeld.2.2.2.2.2.1,keepE hb8 hHeld.2.2.2.2.2.2.1,keepE hb8 hHeld.2.2.2.2.2.2.2.1,keepE hb8 hHeld.2.2.2.2.2.2.2.2.1,keepE hb8 hHeld.2.2.2.2.2.2.2.2.2.1,keepE hb8 hHeld.2.2.2.2.2.2.2.2.2.2.1,keepE hb8 hHeld.2.2.2.2.2.2.2.2.2.2.2.1,keepE hb8 hHeld.2.2.2.2.2.2.2.2.2.2.2.2.1,keepE hb8 hHeld.2.2.2.2.2.2.2.2.2.2.2.2.2⟩ (fun hHeld=>?_);clear hK K;refine norm_ (a':=?_) ?_ ?_
  rotate_left
  ·show Act.put _ (some 81) _=_
   simp only[Act.put,z1,z2,z3,i64_w,i32_w];rfl
  have hb78:Below w7.heap.size w7 w8:=Below.trans hbd (hb8.mono hbd.size);refine run_ [.p 29,.p 30,.p 31,.p 32,.t 33,.p 34,.t 35,.p 36,.p 37,.t 38,.t 39,.p 40,.p 41] ?_
  repeat (first |(refine p0_ (v:=?_) (a':=?_) rfl rfl (by kernel_rfl) (fun _ _ _ h=>h) (by rfl) ?_ ?_ ?_;rotate_left;(intro w';go_simp;with_reducible rfl);rotate_left;(simp only[Act.put,z1,z2,z3,i64_w,i32_w];rfl)) |(refine t0_ (v:=?_) (a':=?_) rfl rfl (by kernel_rfl) (fun _ _ _ h=>h) (by rfl) hHeld ?_ ?_ ?_;rotate_left;(rintro w' ⟨s0,s1,s2,s3,s4,s5,s6,s7,s8,s9,s10,s11,s12,s13⟩;go_simp;with_reducible rfl);rotate_left;(simp only[Act.put,z1,z2,z3,i64_w,i32_w];rfl)) |fail)
  refine ran_ (m':=4398046511103) rfl ?_;refine done_ (by kernel_rfl) ?_;obtain⟨l0,l1',k0,k1,q0,q1,_⟩:=hHeld;have HB78:=Lib.hid hb78;clear hbd hb78 hwd z0 z1' z2' z3' z4' q2 q3 q4;obtain⟨R1,hR1⟩:∃R,findF st rs K T=R:=⟨_,rfl⟩
  have HF1:Hid (∀W,Below w7.heap.size w7 W->Calls Tryd.prog 29 #[.agg #[.int .i64 st,.slice A n c],.int .i64 K,.int .i64 T] W fun e w'=>e=.returned (.int .i64 R1)∧Below W.heap.size W w'):=Lib.hid (fun W hW=>by
   have hh:=HN.out;subst hh;exact logbook_Find.calls st A c rs K T R1 W (Kd.C_below H7.out.2.2.2.1 hW) HCC.out.2.1 (by unfold logbook_Find.f;rw[if_pos (by unfold few6;omega),hR1]))
  have HF0:Hid (∀R2,findF st (rs++[r]) K T=R2->∀W,Below w7.heap.size w7 W->Calls Tryd.prog 29 #[.agg #[.int .i64 st,.slice (some ad6) N1 c6],.int .i64 K,.int .i64 T] W fun e w'=>e=.returned (.int .i64 R2)∧Below W.heap.size W w'):=Lib.hid (fun R2 h2 W hW=>by
   have hC:=Kd.C_below H7.out.2.2.2.2.2 hW;have hh:=HLN.out;subst hh;exact logbook_Find.calls st (some ad6) c6 (rs++[r]) K T R2 W hC HCC.out.2.2 (by unfold logbook_Find.f;rw[if_pos (by unfold few6;omega),h2]))
  have hfs:findF st (rs++[r]) K T=if hit K T r=true then (n:Int) else R1:=by
   rw[<-hR1];unfold findF;rw[HV2.out,HM.out.2.2.2,if_pos rfl,if_pos rfl,recsB_snoc,last_cons,HN.out]
  by_cases g1:T<r.f0
  ·have d1:decide (T<r.f0)=true:=decide_eq_true g1;have hh:¬hit K T r=true:=by
    unfold hit;rw[decide_eq_false (by omega),Bool.and_false]
    decide
   rw[if_neg hh] at hfs;have HF2:=Lib.hid (HF0.out R1 hfs);clear hfs hh hR1 HF0
   go_wp2_with (first |(go_at_call 16;(with_reducible refine (lpick_same a4 3 i4 (by decide) qk HQK.out _).mono ?_);rintro e w8 ⟨rfl,h9⟩;subst h9) |(go_at_call 16;(with_reducible refine (lpick_same a5 450 i5 (by decide) T HT.out _).mono ?_);rintro e w8 ⟨rfl,h9⟩;subst h9) |(go_at_call 29;(with_reducible refine (HF1.out _ HB78.out).mono ?_);rintro e w9 ⟨rfl,hb9⟩;have HB9:=Lib.hid (Below.trans HB78.out (hb9.mono HB78.out.size));have l0:=keepE hb9 l0;have l1':=keepE hb9 l1';have k0:=keepE hb9 k0;have k1:=keepE hb9 k1;have q0:=keepE hb9 q0;have q1:=keepE hb9 q1;clear hb9) |(go_at_call 29;(with_reducible refine (HF2.out _ HB9.out).mono ?_);rintro e w10 ⟨rfl,hb10⟩;have HB10:=Lib.hid (Below.trans HB9.out (hb10.mono HB9.out.size));have l0:=keepE hb10 l0;have l1':=keepE hb10 l1';have q0:=keepE hb10 q0;have q1:=keepE hb10 q1;clear hb10) |fail)
   go_ret
   exact⟨by first |rfl |(simp;done),Below.trans HBM.out (HB10.out.mono HBM.out.size)⟩
  ·have d1:decide (T<r.f0)=false:=decide_eq_false g1
   by_cases g2:K=r.f1
   ·have d2:(K !=r.f1)=false:=by rw[g2];simp
    have hh:hit K T r=true:=by
     unfold hit;rw[g2,decide_eq_true (by omega)];simp
    rw[if_pos hh] at hfs;have HF2:=Lib.hid (HF0.out (n:Int) hfs);clear hfs hh hR1 HF0 g2
    go_wp2_with (first |(go_at_call 16;(with_reducible refine (lpick_same a4 3 i4 (by decide) qk HQK.out _).mono ?_);rintro e w8 ⟨rfl,h9⟩;subst h9) |(go_at_call 16;(with_reducible refine (lpick_same a5 450 i5 (by decide) T HT.out _).mono ?_);rintro e w8 ⟨rfl,h9⟩;subst h9) |(go_at_call 29;(with_reducible refine (HF1.out _ HB78.out).mono ?_);rintro e w9 ⟨rfl,hb9⟩;have HB9:=Lib.hid (Below.trans HB78.out (hb9.mono HB78.out.size));have l0:=keepE hb9 l0;have l1':=keepE hb9 l1';have k0:=keepE hb9 k0;have k1:=keepE hb9 k1;have q0:=keepE hb9 q0;have q1:=keepE hb9 q1;clear hb9) |(go_at_call 29;(with_reducible refine (HF2.out _ HB9.out).mono ?_);rintro e w10 ⟨rfl,hb10⟩;have HB10:=Lib.hid (Below.trans HB9.out (hb10.mono HB9.out.size));have l0:=keepE hb10 l0;have l1':=keepE hb10 l1';have q0:=keepE hb10 q0;have q1:=keepE hb10 q1;clear hb10) |fail)
    go_ret
    exact⟨by first |rfl |(simp;done),Below.trans HBM.out (HB10.out.mono HBM.out.size)⟩
   ·have d2:(K !=r.f1)=true:=by simpa using g2
    have hh:¬hit K T r=true:=by
     unfold hit;rw[show (r.f1==K)=false from beq_eq_false_iff_ne.2 (fun e=>g2 e.symm),Bool.false_and]
     decide
    rw[if_neg hh] at hfs;have HF2:=Lib.hid (HF0.out R1 hfs);clear hfs hh hR1 HF0
    go_wp2_with (first |(go_at_call 16;(with_reducible refine (lpick_same a4 3 i4 (by decide) qk HQK.out _).mono ?_);rintro e w8 ⟨rfl,h9⟩;subst h9) |(go_at_call 16;(with_reducible refine (lpick_same a5 450 i5 (by decide) T HT.out _).mono ?_);rintro e w8 ⟨rfl,h9⟩;subst h9) |(go_at_call 29;(with_reducible refine (HF1.out _ HB78.out).mono ?_);rintro e w9 ⟨rfl,hb9⟩;have HB9:=Lib.hid (Below.trans HB78.out (hb9.mono HB78.out.size));have l0:=keepE hb9 l0;have l1':=keepE hb9 l1';have k0:=keepE hb9 k0;have k1:=keepE hb9 k1;have q0:=keepE hb9 q0;have q1:=keepE hb9 q1;clear hb9) |(go_at_call 29;(with_reducible refine (HF2.out _ HB9.out).mono ?_);rintro e w10 ⟨rfl,hb10⟩;have HB10:=Lib.hid (Below.trans HB9.out (hb10.mono HB9.out.size));have l0:=keepE hb10 l0;have l1':=keepE hb10 l1';have q0:=keepE hb10 q0;have q1:=keepE hb10 q1;clear hb10) |fail)
    go_ret
    exact⟨by first |rfl |(simp;done),Below.trans HBM.out (HB10.out.mono HBM.out.size)⟩
end Go.Proofs.YtfdlmpicmkpabaaDoor.LbSpec
end
