import Derived.Test.YtfdlmpicmkpabaaDoorMLogbookDecodesar
import Derived.StillTailTactics
import Derived.Deep.RegionHeld3
import Derived.Deep.LoopGhost
import Derived.Lib.Hide
import Derived.Test.YtfdlmpicmkpabaaDoorMLogbookDecodesag
/-
  Texts of this claim, one behind the other: what they prove stands above each.
-/
set_option linter.unusedVariables false
set_option linter.unusedSimpArgs false
section
namespace Go.Proofs.YtfdlmpicmkpabaaDoor.Ext
set_option maxRecDepth 100000
open Go.RowKit Go.Shelf Go.Proofs.YtfdlmpicmkpabaaDoorW.PrintWords Go.Proofs.YtfdlmpicmkpabaaDoorW.PrintLast Go.Proofs.YtfdlmpicmkpabaaDoorW.PrintMore
attribute [local go_sem] Oper.semAt_some
abbrev In(c:Int):Prop:= -9223372036854775808<=c∧c<=9223372036854775807
theorem wr_in(x:Int):In (wrap64 x):=by unfold wrap64;omega
def pkN(c n:Int):Int:=if c<0 then (-(c+1))%n else c%n
theorem pkN_range(c n:Int)(h:0<n):0<=pkN c n∧pkN c n<n:=by
 unfold pkN
 split
 ·exact⟨Int.emod_nonneg _ (by omega),Int.emod_lt_of_pos _ h⟩
 ·exact⟨Int.emod_nonneg _ (by omega),Int.emod_lt_of_pos _ h⟩
theorem pick_same(c n:Int)(hc:In c)(hn:0<n)(r:Int)(hr:pkN c n=r)(w:World):Calls Tryd.prog 44 #[.int .i64 c,.int .i64 n] w fun e w'=>e=.returned (.int .i64 r)∧w'=w:=by
 have hn0:¬n=0:=by omega
 subst hr;unfold pkN
 by_cases h:c<0
 ·have e1:wrap64 (-(c+1))= -(c+1):=by unfold wrap64;omega
  have e2:Int.tmod (-(c+1)) n=(-(c+1))%n:=Int.tmod_eq_emod_of_nonneg (by omega);rw[if_pos h, <-e2];clear e2
  go_enter Tryd.func44,Tryd.ntmps44
  go_wp2
  go_ret
  exact⟨by first |rfl |(simp;done) |(simp[*];done),rfl⟩
 ·have h0:0<=c:=by omega
  have hn1:0<=n:=by omega
  rw[if_neg h]
  go_enter Tryd.func44,Tryd.ntmps44
  go_wp2
  go_ret
  exact⟨by first |rfl |(simp;done) |(simp[*];done),rfl⟩
theorem wp_det{P:Program}{c:Code}{Q:Exit->Act->World->Prop}{a:Act}{w:World}{A:Act}{W:World}(h:c.wp P (fun e a' w'=>e=Exit.normal∧a'=A∧w'=W) a w)(hq:Q .normal A W):c.wp P Q a w:=
 Code.wp_mono (fun e a w ⟨h1,h2,h3⟩=>by subst h1;subst h2;subst h3;exact hq) h
def entL(x:Int):Nat->Int->List Int
 |0,_=>[]
 |d+1,i=>pkN (wrap64 (Int.tdiv x (4+i))) 256%256::entL x d (i+1)
theorem entL_len(x:Int):∀(d:Nat) (i:Int),(entL x d i).length=d
 |0,_=>rfl
 |d+1,i=>by unfold entL;rw[List.length_cons,entL_len x d]
theorem entL_snoc(x:Int):∀(d:Nat) (i:Int),entL x (d+1) i=entL x d i++[pkN (wrap64 (Int.tdiv x (4+(i+(d:Int))))) 256%256]
 |0,i=>by simp[entL]
 |d+1,i=>by
  rw[entL,entL_snoc x d (i+1),entL,List.cons_append,show i+1+(d:Int)=i+((d+1:Nat):Int) by omega]
def entS(x:Int)(k:Nat):ByteArray:=(entL x k 0).foldl (fun s b=>s++strOfNums [b]) ⟨#[]⟩
theorem entS_succ(x:Int)(k:Nat):entS x (k+1)=entS x k++strOfNums [pkN (wrap64 (Int.tdiv x (4+(k:Int)))) 256%256]:=by
 unfold entS;rw[entL_snoc,List.foldl_append,Int.zero_add];rfl
theorem fold_size:∀(l:List Int) (s:ByteArray),(l.foldl (fun s b=>s++strOfNums [b]) s).size=s.size+l.length
 | [],s=>rfl
 |b::l,s=>by
  rw[List.foldl_cons,fold_size l,ByteArray.size_append,show (strOfNums [b]).size=1 from rfl,List.length_cons];omega
theorem entS_size(x:Int)(k:Nat):(entS x k).size=k:=by
 unfold entS;rw[fold_size,entL_len]
 show 0+k=k
 omega
def entT(x:Int):ByteArray:=entS x (pkN x 4).toNat
theorem entT_size(x:Int):(entT x).size<=3:=by
 have:=pkN_range x 4 (by decide);unfold entT;rw[entS_size];omega
def entF(at_ x0 x1 x2 x3:Int):Rec:=⟨pkN at_ 10000001,1+pkN x0 3,pkN x1 200 - 1,pkN x2 200 - 1,entT x3⟩
theorem keepE{w1 w2:World}{a:Addr}{v:Value}(hb:Below w1.heap.size w1 w2)(h:w1.cell? a=some v):w2.cell? a=some v:=(hb.cell (World.block_lt_of_cell? _ _ h)).trans h
theorem put5_blk{w:World}{b t:Nat}{a0 a1 a2 a3 a4:Value}(hb:Blk w b t [a0,a1,a2,a3,a4])(v0 v1 v2 v3 v4:Value):Blk (((((w.setCell ⟨b,0,none⟩ v0).setCell ⟨b,1,none⟩ v1).setCell ⟨b,2,none⟩ v2).setCell ⟨b,3,none⟩ v3).setCell ⟨b,4,none⟩ v4) b t [v0,v1,v2,v3,v4]:=
 ((((hb.set 0 v0).set 1 v1).set 2 v2).set 3 v3).set 4 v4
theorem put5_below{B:Nat}{w0 w:World}{b:Nat}(h:Below B w0 w)(hb:B<=b)(v0 v1 v2 v3 v4:Value):Below B w0 (((((w.setCell ⟨b,0,none⟩ v0).setCell ⟨b,1,none⟩ v1).setCell ⟨b,2,none⟩ v2).setCell ⟨b,3,none⟩ v3).setCell ⟨b,4,none⟩ v4):=
 ((((h.setCell (p:=⟨b,0,none⟩) hb v0).setCell (p:=⟨b,1,none⟩) hb v1).setCell (p:=⟨b,2,none⟩) hb v2).setCell (p:=⟨b,3,none⟩) hb v3).setCell (p:=⟨b,4,none⟩) hb v4
set_option maxHeartbeats 4000000 in
theorem entry_walk(t x0 x1 x2 x3:Int)(ht:In t)(h0:In x0)(h1:In x1)(h2:In x2)(h3:In x3)(w:World):
  Calls Tryd.prog 19 #[.int .i64 t,.agg #[.int .i64 x0,.int .i64 x1,.int .i64 x2,.int .i64 x3]] w fun e w'=>e=.returned (rval (entF t x0 x1 x2 x3))∧Below w.heap.size w w':=by
 obtain⟨p0,hp0⟩:∃p,pkN t 10000001=p:=⟨_,rfl⟩
 obtain⟨p1,hp1⟩:∃p,pkN x0 3=p:=⟨_,rfl⟩
 obtain⟨p2,hp2⟩:∃p,pkN x1 200=p:=⟨_,rfl⟩
 obtain⟨p3,hp3⟩:∃p,pkN x2 200=p:=⟨_,rfl⟩
 have b0:=pkN_range t 10000001 (by decide);have b1:=pkN_range x0 3 (by decide);have b2:=pkN_range x1 200 (by decide);have b3:=pkN_range x2 200 (by decide);have b4:=pkN_range x3 4 (by decide);obtain⟨D,hD⟩:∃D:Nat,(pkN x3 4).toNat=D:=⟨_,rfl⟩
 have hDi:pkN x3 4=(D:Int):=by omega
 have hF:entF t x0 x1 x2 x3=⟨p0,1+p1,p2 - 1,p3 - 1,entS x3 D⟩:=by unfold entF entT;rw[hp0,hp1,hp2,hp3,hD]
 rw[hF];rw[hp0] at b0;rw[hp1] at b1;rw[hp2] at b2;rw[hp3] at b3;rw[hDi] at b4;obtain⟨u1,hu1⟩:∃u,1+p1=u:=⟨_,rfl⟩
 obtain⟨u2,hu2⟩:∃u,p2 - 1=u:=⟨_,rfl⟩
 obtain⟨u3,hu3⟩:∃u,p3 - 1=u:=⟨_,rfl⟩
 have k0:IntKind.i64.wrap (1+p1)=u1:=by rw[<-hu1];exact IntWalk.i64_in _ (by omega)
 have k2:IntKind.i64.wrap (p2 - 1)=u2:=by rw[<-hu2];exact IntWalk.i64_in _ (by omega)
 have k3:IntKind.i64.wrap (p3 - 1)=u3:=by rw[<-hu3];exact IntWalk.i64_in _ (by omega)
 rw[hu1,hu2,hu3];have HP0:=Lib.hid hp0;have HP1:=Lib.hid hp1;have HP2:=Lib.hid hp2;have HP3:=Lib.hid hp3;have HD:=Lib.hid hDi;have HB4:=Lib.hid b4;have H3:=Lib.hid h3;clear hp0 hp1 hp2 hp3 hD hDi hF b0 b1 b2 b3 b4 hu1 hu2 hu3 h3
 go_enter Tryd.func19,Tryd.ntmps19
 go_upto_region 1 with (first |fail)
 have hA:Blk ((w.alloc (.cells #[.int .i64 x0,.int .i64 x1,.int .i64 x2,.int .i64 x3] 41)).alloc (.cells #[.int .i64 0,.int .i64 0,.int .i64 0,.int .i64 0,.string ⟨#[]⟩] 43)) w.heap.size 41 [.int .i64 x0,.int .i64 x1,.int .i64 x2,.int .i64 x3]:=(Blk.newA w _ _ _ rfl).alloc _;have hS:Blk ((w.alloc (.cells #[.int .i64 x0,.int .i64 x1,.int .i64 x2,.int .i64 x3] 41)).alloc (.cells #[.int .i64 0,.int .i64 0,.int .i64 0,.int .i64 0,.string ⟨#[]⟩] 43)) (w.heap.size+1) 43 (rcells ⟨0,0,0,0,⟨#[]⟩⟩):=by
  have:=Blk.newA (w.alloc (.cells #[.int .i64 x0,.int .i64 x1,.int .i64 x2,.int .i64 x3] 41)) 43 #[.int .i64 0,.int .i64 0,.int .i64 0,.int .i64 0,.string ⟨#[]⟩] (rcells ⟨0,0,0,0,⟨#[]⟩⟩) rfl
  rwa [World.size_alloc] at this
 have hb1:Below w.heap.size w ((w.alloc (.cells #[.int .i64 x0,.int .i64 x1,.int .i64 x2,.int .i64 x3] 41)).alloc (.cells #[.int .i64 0,.int .i64 0,.int .i64 0,.int .i64 0,.string ⟨#[]⟩] 43)):=((Below.refl _ _).alloc (Nat.le_refl _) _).alloc (by simp) _;have hs1:((w.alloc (.cells #[.int .i64 x0,.int .i64 x1,.int .i64 x2,.int .i64 x3] 41)).alloc (.cells #[.int .i64 0,.int .i64 0,.int .i64 0,.int .i64 0,.string ⟨#[]⟩] 43)).heap.size=w.heap.size+2:=by simp
 generalize (w.alloc (.cells #[.int .i64 x0,.int .i64 x1,.int .i64 x2,.int .i64 x3] 41)).alloc (.cells #[.int .i64 0,.int .i64 0,.int .i64 0,.int .i64 0,.string ⟨#[]⟩] 43)=w1 at*
 have c0:=hA.cell (j:=0) rfl;have c1:=hA.cell (j:=1) rfl;have c2:=hA.cell (j:=2) rfl;have hne:w.heap.size≠w1.heap.size:=by omega
 obtain⟨b,hb⟩:∃b,w.heap.size=b:=⟨_,rfl⟩
 rw[hb] at hA hS hb1 hs1 c0 c1 c2 hne ⊢;have HA:=Lib.hid hA;have HS:=Lib.hid hS;have HB1:=Lib.hid hb1;have HS1:=Lib.hid hs1;have HBW:=Lib.hid hb;clear hA hS hb1 hs1 hb;apply wp_det
 ·go_region_held3 (fun w'=>w'.cell? ⟨b,0,none⟩=some (.int .i64 x0)∧w'.cell? ⟨b,1,none⟩=some (.int .i64 x1)∧w'.cell? ⟨b,2,none⟩=some (.int .i64 x2)) (first |(with_reducible exact⟨c0,c1,c2⟩) |(refine⟨?_,?_,?_⟩<;>(repeat (first |with_reducible exact c0 |with_reducible exact c1 |with_reducible exact c2 |with_reducible refine c_old ?_ |with_reducible refine c_drewN ?_ |with_reducible refine c_drew ?_ |with_reducible refine far_set hne ?_))) |fail) (first |(go_at_call 44;(with_reducible refine (pick_same t 10000001 ht (by decide) p0 HP0.out _).mono ?_);rintro e w' ⟨rfl,rfl⟩) |(go_at_call 44;(with_reducible refine (pick_same x0 3 h0 (by decide) p1 HP1.out _).mono ?_);rintro e w' ⟨rfl,rfl⟩) |(go_at_call 44;(with_reducible refine (pick_same x1 200 h1 (by decide) p2 HP2.out _).mono ?_);rintro e w' ⟨rfl,rfl⟩) |(go_at_call 44;(with_reducible refine (pick_same x2 200 h2 (by decide) p3 HP3.out _).mono ?_);rintro e w' ⟨rfl,rfl⟩) |fail)
  all_goals exact⟨rfl,rfl,rfl⟩
 have hR:Blk ((w1.alloc (.cells #[.int .i64 p0,.int .i64 u1,.int .i64 u2,.int .i64 u3,.string ⟨#[]⟩] 43)).drew) w1.heap.size 43 (rcells ⟨p0,u1,u2,u3,entS x3 0⟩):=(Blk.newA w1 _ _ _ rfl).drew;have hA2:=(HA.out.alloc (.cells #[.int .i64 p0,.int .i64 u1,.int .i64 u2,.int .i64 u3,.string ⟨#[]⟩] 43)).drew;have hS2:=(HS.out.alloc (.cells #[.int .i64 p0,.int .i64 u1,.int .i64 u2,.int .i64 u3,.string ⟨#[]⟩] 43)).drew;have hb2:Below b w ((w1.alloc (.cells #[.int .i64 p0,.int .i64 u1,.int .i64 u2,.int .i64 u3,.string ⟨#[]⟩] 43)).drew):=below_drew1 (HB1.out.alloc (by rw[HS1.out];omega) _);have hne2:b+1≠w1.heap.size:=by rw[HS1.out];omega
 clear c0 c1 c2 HA HS HB1 k0 k2 k3;generalize (w1.alloc (.cells #[.int .i64 p0,.int .i64 u1,.int .i64 u2,.int .i64 u3,.string ⟨#[]⟩] 43)).drew=w2 at*
 obtain⟨g,hg⟩:∃g,w1.heap.size=g:=⟨_,rfl⟩
 have hbg:b<=g:=by rw[<-hg,HS1.out];omega
 rw[hg] at hR hne hne2 ⊢;clear HS1 hg;have HBG:=Lib.hid hbg;clear hbg;have HNE2:=Lib.hid hne2
 go_wp2
 go_loopw [6] (fun i wr=>∃k:Nat,k<=D∧i=.int .i64 (k:Int)∧Blk wr b 41 [.int .i64 x0,.int .i64 x1,.int .i64 x2,.int .i64 x3]∧Blk wr (b+1) 43 (rcells ⟨0,0,0,0,⟨#[]⟩⟩)∧Blk wr g 43 (rcells ⟨p0,u1,u2,u3,entS x3 k⟩)∧Below b w wr) (fun i wr=>D - (intOf i).toNat)
 case atStart=>exact⟨0,by omega,rfl,hA2,hS2,hR,hb2⟩
 case round=>
  clear hA2 hS2 hR hb2;obtain⟨k,hk,rfl,hA,hS,hR,hB⟩:=hrel;have c3:=hA.cell (j:=3) rfl;have g4:=hR.cell (j:=4) rfl;have g0:=hR.cell (j:=0) rfl;have g1:=hR.cell (j:=1) rfl;have g2:=hR.cell (j:=2) rfl;have g3:=hR.cell (j:=3) rfl;have fg:=hR.free 4;have r0:=hS.cell (j:=0) rfl;have r1:=hS.cell (j:=1) rfl;have r2:=hS.cell (j:=2) rfl;have r3:=hS.cell (j:=3) rfl;have r4:=hS.cell (j:=4) rfl;have f0:=hS.free 0;have f1:=hS.free 1;have f2:=hS.free 2;have f3:=hS.free 3;have f4:=hS.free 4;have hbd:=HB4.out;have HAA:=Lib.hid hA;have HSS:=Lib.hid hS;have HRR:=Lib.hid hR;have HBB:=Lib.hid hB;clear hA hS hR hB
  by_cases hlt:k<D
  ·have d1:decide ((k:Int)<(D:Int))=true:=decide_eq_true (by omega);obtain⟨m,hm⟩:∃m:Int,4+(k:Int)=m:=⟨_,rfl⟩
   have hwm:IntKind.i64.wrap (4+(k:Int))=m:=by rw[<-hm];exact IntWalk.i64_in _ (by omega)
   have hm0:¬m=0:=by omega
   obtain⟨y,hy⟩:∃y,wrap64 (Int.tdiv x3 m)=y:=⟨_,rfl⟩
   have hy1:IntKind.i64.wrap (Int.tdiv x3 m)=y:=by rw[i64_w];exact hy
   have hyi:In y:=by rw[<-hy];exact wr_in _
   obtain⟨q,hq⟩:∃q,pkN y 256=q:=⟨_,rfl⟩
   have hqb:=pkN_range y 256 (by decide);rw[hq] at hqb;have HEW:Hid (wrap64 ((k:Int)+1)=((k+1:Nat):Int)):=Lib.hid (by rw[w64' (by omega) (by omega)];omega);have hst:=entS_succ x3 k;rw[hm,hy,hq] at hst;have HST:=Lib.hid hst;have HQ:=Lib.hid hq;have HLT:=Lib.hid (And.intro hlt (And.intro hk hqb));clear hy hq hst hm hbd hqb
   go_upto_region 5 with (first |(go_at_call 44;(with_reducible refine (pick_same x3 4 H3.out (by decide) (D:Int) HD.out _).mono ?_);rintro e w9 ⟨rfl,rfl⟩) |fail)
   refine start_ (n:=14) (S:=fun w'=>w'.cell? ⟨g,4,none⟩=some (.string (entS x3 k))∧w'.cell? ⟨b,3,none⟩=some (.int .i64 x3)) (ds:=[13]) (bb 14 0) (by kernel_rfl) rfl rfl ⟨g4,c3⟩ (fun hHeld=>?_);generalize hwd:w9.drew=wd at*
   refine run_ [.p 0,.t 1,.p 2,.t 3,.p 4,.p 5,.p 6] ?_
   repeat (first |(refine p0_ (v:=?_) (a':=?_) rfl rfl (by kernel_rfl) (fun _ _ _ h=>h) (by rfl) ?_ ?_ ?_;rotate_left;(intro w';go_simp;with_reducible rfl);rotate_left;(simp only[Act.put,z1,z2,z3,i64_w,i32_w];rfl)) |(refine t0_ (v:=?_) (a':=?_) rfl rfl (by kernel_rfl) (fun _ _ _ h=>h) (by rfl) hHeld ?_ ?_ ?_;rotate_left;(rintro w' ⟨s0,s1⟩;go_simp;with_reducible rfl);rotate_left;(simp only[Act.put,z1,z2,z3,i64_w,i32_w];rfl)) |fail)
   refine ran_ (m':=127) rfl ?_;refine one_ (i:=7) (N:=some 36) (bb 14 255) rfl rfl (by kernel_rfl) (by decide) (fun K hK=>?_);refine goes_ Tryd.func44 (by kernel_rfl) rfl #[.int .i64 y,.int .i64 256] (by rfl) rfl rfl (by (try simp only[List.map_toArray,List.map_cons,List.map_nil]);first |done |rfl) ?_;refine (pick_same y 256 hyi (by decide) q HQ.out _).mono ?_
   rintro e w8 ⟨rfl,hw8⟩
   subst hw8;refine⟨_,rfl,?_⟩;refine hK.out _ _ hHeld (fun hHeld=>?_);clear hK K;refine norm_ (a':=?_) ?_ ?_
   rotate_left
   ·show Act.put _ (some 36) _=_
    simp only[Act.put,z1,z2,z3,i64_w,i32_w];rfl
   refine run_ [.p 8] ?_
   repeat (first |(refine p0_ (v:=?_) (a':=?_) rfl rfl (by kernel_rfl) (fun _ _ _ h=>h) (by rfl) ?_ ?_ ?_;rotate_left;(intro w';go_simp;with_reducible rfl);rotate_left;(simp only[Act.put,z1,z2,z3,i64_w,i32_w];rfl)) |fail)
   refine ran_ (m':=511) rfl ?_;refine one_ (i:=9) (N:=some 38) (bb 14 1023) rfl rfl (by kernel_rfl) (by decide) (fun K hK=>?_);refine Kd.R_lit_step (Kd.int .u8) _ 5 ?hg (N:=38) ?hd (xs:=([q%256]:List Int)) (inner:=[.int .u8 (q%256)]) (ok:=fun _=>True) (okp:=fun _=>True) ?hr ?hp (fun _ hk=>hk) trivial (Below.refl _ _) (Nat.le_refl _) (by simp) ?_;(case hd=>rfl);(case hg=>rfl);(case hr=>first |(go_simp;done) |(go_simp;rfl));(case hp=>exact (Reps.one (show Kd.M (Kd.int .u8) _ _ _ (q%256) [.int .u8 (q%256)] from rfl) (Reps.none _ _)))
   intro v5 w5 ho5 hb5 hg5 hn5;refine hK.out _ _ ⟨keepE hb5 hHeld.1,keepE hb5 hHeld.2⟩ (fun hHeld=>?_);clear hK K hg5 hn5;refine norm_ (a':=?_) ?_ ?_
   rotate_left
   ·show Act.put _ (some 38) _=_
    simp only[Act.put,z1,z2,z3,i64_w,i32_w];rfl
   refine one_ (i:=10) (N:=some 39) (bb 14 2047) rfl rfl (by kernel_rfl) (by decide) (fun K hK=>?_);have hcv:=own_string (P:=Tryd.prog) Tryd.underlying48 Tryd.underlying5 Tryd.underlying9 (Kd.own_of_R ho5);refine value_ (w1:=?_) (v:=?_) (by rfl) rfl ?_ ?_
   rotate_left 2
   ·go_simp
    constructor
    ·rfl
    ·rfl
   clear hcv;refine hK.out _ _ hHeld (fun hHeld=>?_);clear hK K;refine norm_ (a':=?_) ?_ ?_
   rotate_left
   ·show Act.put _ (some 39) _=_
    simp only[Act.put,z1,z2,z3,i64_w,i32_w];rfl
   have hsz:(entS x3 k).size+(strOfNums [q%256]).size<=9223372036854775807:=by
    have:=HLT.out.1;have:=HB4.out.2;rw[entS_size,show (strOfNums [q%256]).size=1 from rfl];omega
   have hsz1:decide ((entS x3 k).size+(strOfNums [q%256]).size<=9223372036854775807)=true:=decide_eq_true hsz;have hsz2:(9223372036854775807<(entS x3 k).size+(strOfNums [q%256]).size)=False:=eq_false (Nat.not_lt.2 hsz);refine run_ [.p 11,.p 12] ?_
   repeat (first |(refine p0_ (v:=?_) (a':=?_) rfl rfl (by kernel_rfl) (fun _ _ _ h=>h) (by rfl) ?_ ?_ ?_;rotate_left;(intro w';go_simp;with_reducible rfl);rotate_left;(simp only[Act.put,z1,z2,z3,i64_w,i32_w];rfl)) |fail)
   refine ran_ (m':=8191) rfl ?_;refine last_ (i:=13) (N:=none) (bb 14 16383) rfl rfl (by kernel_rfl) (by decide) (fun K hK=>?_);have hR8:=HRR.out.drew;have hA8:=HAA.out.drew;have hS8:=HSS.out.drew;have hB8:=below_drew1 HBB.out;rw[hwd] at hR8 hA8 hS8 hB8;have hR5:=hR8.belowS hb5;have hA5:=hA8.belowS hb5;have hS5:=hS8.belowS hb5;have hB5:Below b w w5:=Below.trans hB8 (hb5.mono (Nat.le_of_lt hA8.lt));have x4:=hR5.cell (j:=4) rfl;have x5:=hR5.free 4;refine skip_ (w1:=?_) (by rfl) rfl ?_ ?_
   rotate_left
   ·go_simp
    rfl
   refine hK.out _ _ ?_;clear hK K;refine done_ (by kernel_rfl) ?_;have HX:=Lib.hid (And.intro hR5 (And.intro hA5 (And.intro hS5 hB5)));clear hR5 hA5 hS5 hB5 hR8 hA8 hS8 hB8 x4 x5 hsz hsz1 hsz2 hHeld ho5 hb5
   go_wp2
   go_roundw
   case rel=>
    obtain⟨hR5,hA5,hS5,hB5⟩:=HX.out;refine⟨k+1,HLT.out.1,by rw[HEW.out],hA5.set_other ⟨g,4,none⟩ (by exact hne) _,hS5.set_other ⟨g,4,none⟩ (by exact HNE2.out) _,?_,?_⟩
    ·rw[HST.out];exact hR5.set 4 _
    ·exact hB5.setCell (p:=⟨g,4,none⟩) HBG.out _
   case measure=>
    have:=HLT.out.1
    show D - (intOf (.int .i64 (wrap64 ((k:Int)+1)))).toNat<D - k
    rw[HEW.out];simp only[intOf,Int.toNat_natCast];omega
  ·obtain rfl:k=D:=by omega
   have d1:decide ((k:Int)<(k:Int))=false:=decide_eq_false (by omega)
   go_wp2_with (first |(go_at_call 44;(with_reducible refine (pick_same x3 4 H3.out (by decide) (k:Int) HD.out _).mono ?_);rintro e w9 ⟨rfl,rfl⟩) |fail)
   refine bodyPost_ret (results_single (r:=.cell 4 43) rfl (.cell _ _ _ (0,0) _ rfl (put5_blk HSS.out _ _ _ _ _) Tryd.underlying43 rfl (by kernel_rfl) .nil)) rfl ?_;refine⟨rfl,?_⟩;rw[HBW.out];exact put5_below HBB.out (Nat.le_succ b) _ _ _ _ _
end Go.Proofs.YtfdlmpicmkpabaaDoor.Ext
end
