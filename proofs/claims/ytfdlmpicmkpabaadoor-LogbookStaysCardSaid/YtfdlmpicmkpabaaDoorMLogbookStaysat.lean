import Derived.Test.YtfdlmpicmkpabaaDoorMLogbookStaysas
/-
  Texts of this claim, one behind the other: what they prove stands above each.
-/
set_option linter.unusedVariables false
set_option linter.unusedSimpArgs false
section
namespace Go.Proofs.YtfdlmpicmkpabaaDoor.Ext
set_option maxRecDepth 100000
open Go.RowKit Go.Shelf Go.Proofs.YtfdlmpicmkpabaaDoorW.PrintWords Go.Proofs.YtfdlmpicmkpabaaDoorW.PrintLast Go.Proofs.YtfdlmpicmkpabaaDoorW.PrintMore
attribute [local go_sem] Oper.semAt_some
abbrev Five:=S75
def inFive(x:Five):Prop:=In x.f0∧In x.f1∧In x.f2∧In x.f3∧In x.f4
instance (x:Five):Decidable (inFive x):=by unfold inFive;exact inferInstance
def madeL:Int->List Five->List Rec
 |_,[]=>[]
 |a,x::xs=>entF (a+pkN x.f0 30) x.f1 x.f2 x.f3 x.f4::madeL (a+pkN x.f0 30) xs
def dayL:Int->List Five->Int
 |a,[]=>a
 |a,x::xs=>dayL (a+pkN x.f0 30) xs
theorem dayL_snoc:∀(a:Int) (xs:List Five) (x:Five),dayL a (xs++[x])=dayL a xs+pkN x.f0 30
 |a,[],x=>rfl
 |a,y::ys,x=>dayL_snoc (a+pkN y.f0 30) ys x
theorem madeL_snoc:∀(a:Int) (xs:List Five) (x:Five),madeL a (xs++[x])=madeL a xs++[entF (dayL a xs+pkN x.f0 30) x.f1 x.f2 x.f3 x.f4]
 |a,[],x=>rfl
 |a,y::ys,x=>congrArg (List.cons _) (madeL_snoc (a+pkN y.f0 30) ys x)
theorem dayL_le:∀(xs:List Five) (a:Int),a<=dayL a xs∧dayL a xs<=a+30*xs.length
 | [],a=>⟨Int.le_refl _,by show a<=_;simp⟩
 |y::ys,a=>by
  have:=pkN_range y.f0 30 (by decide);have h:=dayL_le ys (a+pkN y.f0 30)
  show a<=dayL (a+pkN y.f0 30) ys∧dayL (a+pkN y.f0 30) ys<=_
  rw[List.length_cons];omega
def madeF(xs:List Five):List Rec:=madeL 0 (xs.take 12)
def OwnL(B:Nat)(w:World)(g:Nat)(st:Int)(A:Option Addr)(n c:Nat)(rs:List Rec):Prop:=
 rs.length=n∧n<=c∧Blk w g 26 [.int .i64 st,.slice A n c]∧Kd.R kRec 43 w B (fun _=>True) (.slice A n c) rs
theorem OwnL.below{B:Nat}{w w':World}{g:Nat}{st:Int}{A:Option Addr}{n c:Nat}{rs:List Rec}(h:OwnL B w g st A n c rs)(hb:Below w.heap.size w w'):OwnL B w' g st A n c rs:=⟨h.1,h.2.1,h.2.2.1.belowS hb,Kd.R_below h.2.2.2 hb⟩
theorem five_rd{l:List Five}{k:Nat}(h:k<l.length):rd_T75 l (k:Int)=l[k]:=by
 unfold rd_T75;rw[Int.toNat_natCast,List.getD_eq_getElem?_getD,List.getElem?_eq_getElem h];rfl
set_option maxHeartbeats 4000000 in
theorem made_walk(a0:Int)(ha:In a0)(A:Option Addr)(n c:Nat)(l:List Five)(hl:l.length=n)(hx:∀x ∈ l,inFive x)(w:World)(hC:Kd.C k75 w A n l)(hc:n<=c):
  Calls Tryd.prog 10 #[.int .i64 a0,.slice A n c] w fun e w'=>∃v:Value,e=.returned (.agg #[.int .i64 (pkN a0 100),v])∧Kd.R kRec 43 w' w.heap.size (fun _=>True) v (madeF l)∧Below w.heap.size w w':=by
 obtain⟨st,hst⟩:∃q,pkN a0 100=q:=⟨_,rfl⟩
 rw[hst];have HST:=Lib.hid hst;have HL:=Lib.hid hl;have HX:=Lib.hid hx;have HC:=Lib.hid hC;clear hst hl hx hC
 go_enter Tryd.func10,Tryd.ntmps10
 go_wp2_with (first |(go_at_call 44;(with_reducible refine (pick_same a0 100 ha (by decide) st HST.out _).mono ?_);rintro e w2 ⟨rfl,hw2⟩;subst hw2) |fail)
 have hR2:Blk (w.alloc (.cells #[.int .i64 0,.slice none 0 0] 26)) w.heap.size 26 [.int .i64 0,.slice none 0 0]:=Blk.newA w _ _ _ rfl;have hb2:Below w.heap.size w (w.alloc (.cells #[.int .i64 0,.slice none 0 0] 26)):=(Below.refl _ _).alloc (Nat.le_refl _) _;have hs2:(w.alloc (.cells #[.int .i64 0,.slice none 0 0] 26)).heap.size=w.heap.size+1:=by simp
 have hO3:OwnL w.heap.size ((w.alloc (.cells #[.int .i64 0,.slice none 0 0] 26)).alloc (.cells #[.int .i64 st,.slice none 0 0] 26)) (w.heap.size+1) st none 0 0 (madeL 0 (l.take 0)):=⟨rfl,Nat.le_refl _,by have:=Blk.newA (w.alloc (.cells #[.int .i64 0,.slice none 0 0] 26)) 26 #[.int .i64 st,.slice none 0 0] [.int .i64 st,.slice none 0 0] rfl;rwa [hs2] at this,Kd.R_nil _ _ _ _ _⟩;have hR3:=hR2.alloc (.cells #[.int .i64 st,.slice none 0 0] 26);have hb3:Below w.heap.size w ((w.alloc (.cells #[.int .i64 0,.slice none 0 0] 26)).alloc (.cells #[.int .i64 st,.slice none 0 0] 26)):=hb2.alloc (by omega) _;clear hR2 hb2 hs2;generalize ((w.alloc (.cells #[.int .i64 0,.slice none 0 0] 26)).alloc (.cells #[.int .i64 st,.slice none 0 0] 26))=w3 at*
 go_loopw [7,6] (fun i d wr=>∃(k:Nat) (A':Option Addr) (c':Nat),k<=n∧k<=12∧i=.int .i64 (k:Int)∧d=.int .i64 (dayL 0 (l.take k))∧OwnL w.heap.size wr (w.heap.size+1) st A' k c' (madeL 0 (l.take k))∧Blk wr w.heap.size 26 [.int .i64 0,.slice none 0 0]∧Below w.heap.size w wr) (fun i _ wr=>n - (intOf i).toNat)
 case atStart=>exact⟨0,none,0,by omega,by omega,rfl,rfl,hO3,hR3,hb3⟩
 case round=>
  clear hO3 hR3 hb3;obtain⟨k,A',c',hk,hk12,rfl,rfl,hown,hRw,hbel⟩:=hrel
  by_cases hlt:k<n∧k<12
  ·obtain⟨hkn,hk2⟩:=hlt;have hki:(k:Int)<(n:Int):=by omega
   have hki2:(k:Int)<12:=by omega
   have d1:decide ((k:Int)<(n:Int))=true:=decide_eq_true hki;have d2:decide ((k:Int)<12)=true:=decide_eq_true hki2;obtain⟨ad,rfl,u0,u1,u2,u3,u4⟩:=at_T75 HC.out (k:Int) (by omega) hki;rw[Int.toNat_natCast] at u0 u1 u2 u3 u4;have hkl:k<l.length:=by rw[HL.out];exact hkn
   have hmem:rd_T75 l (k:Int) ∈ l:=by rw[five_rd hkl];exact List.getElem_mem hkl
   have hsn:l.take (k+1)=l.take k++[rd_T75 l (k:Int)]:=by
    rw[five_rd hkl,List.take_add_one,List.getElem?_eq_getElem hkl];rfl
   have hix:=HX.out _ hmem;have hdn:=dayL_snoc 0 (l.take k) (rd_T75 l (k:Int));have hmn:=madeL_snoc 0 (l.take k) (rd_T75 l (k:Int));rw[<-hsn] at hdn hmn;have hday:=dayL_le (l.take k) 0;rw[List.length_take] at hday;generalize rd_T75 l (k:Int)=x at*
   obtain⟨hx0,hx1,hx2,hx3,hx4⟩:=hix;have x0:=keepE hbel u0;have x1:=keepE hbel u1;have x2:=keepE hbel u2;have x3:=keepE hbel u3;have x4:=keepE hbel u4;have HU:=Lib.hid (And.intro u1 (And.intro u2 (And.intro u3 u4)));clear u0 u1 u2 u3 u4;obtain⟨q0,hq0⟩:∃q,pkN x.f0 30=q:=⟨_,rfl⟩
   have hq0b:=pkN_range x.f0 30 (by decide);rw[hq0] at hq0b hdn hmn;obtain⟨D,hD⟩:∃D,dayL 0 (l.take k)=D:=⟨_,rfl⟩
   rw[hD] at hdn hmn hday ⊢;obtain⟨D1,hD1⟩:∃D1,D+q0=D1:=⟨_,rfl⟩
   rw[hD1] at hdn hmn;have hwD:IntKind.i64.wrap (D+q0)=D1:=by rw[<-hD1];exact IntWalk.i64_in _ (by omega)
   have hD1i:In D1:=by rw[<-hD1];constructor<;>omega
   obtain⟨rs,hrs⟩:∃rs,madeL 0 (l.take k)=rs:=⟨_,rfl⟩
   rw[hrs] at hmn hown;obtain⟨y,hy⟩:∃y,entF D1 x.f1 x.f2 x.f3 x.f4=y:=⟨_,rfl⟩
   rw[hy] at hmn;have HY:=Lib.hid hy;have HQ0:=Lib.hid hq0;have HDN:=Lib.hid hdn;have HMN:=Lib.hid hmn;have HOWN:=Lib.hid hown;have HRW:=Lib.hid hRw;have HBEL:=Lib.hid hbel;have HEW:Hid (wrap64 ((k:Int)+1)=((k+1:Nat):Int)):=Lib.hid (by rw[w64' (by omega) (by omega)];omega);have HK:=Lib.hid (And.intro hkn hk2);clear hmem hsn hkl hy hq0 hdn hmn hown hRw hbel hD hD1 hrs hday hq0b
   go_upto_region 7 with (first |(go_at_call 44;(with_reducible refine (pick_same x.f0 30 hx0 (by decide) q0 HQ0.out _).mono ?_);rintro e w4 ⟨rfl,rfl⟩) |fail)
   have g1:=HOWN.out.2.2.1.cell (j:=1) rfl;refine start_ (n:=29) (S:=fun w'=>w'.cell? ⟨w.heap.size+1,1,none⟩=some (.slice A' k c')∧w'.cell? ⟨(ad.add (k*5)).block,(ad.add (k*5)).off+1,none⟩=some (.int .i64 x.f1)∧w'.cell? ⟨(ad.add (k*5)).block,(ad.add (k*5)).off+2,none⟩=some (.int .i64 x.f2)∧w'.cell? ⟨(ad.add (k*5)).block,(ad.add (k*5)).off+3,none⟩=some (.int .i64 x.f3)∧w'.cell? ⟨(ad.add (k*5)).block,(ad.add (k*5)).off+4,none⟩=some (.int .i64 x.f4)) (ds:=[28]) (bb 29 0) (by kernel_rfl) rfl rfl ⟨g1,x1,x2,x3,x4⟩ (fun hHeld=>?_);generalize hwd:w4.drew=wd at*
   refine run_ [.p 0,.t 1,.p 2,.p 3,.p 4,.p 5,.p 6,.t 7,.p 8,.p 9,.p 10,.p 11,.t 12,.p 13,.p 14,.p 15,.p 16,.t 17,.p 18,.p 19,.p 20,.p 21,.t 22,.p 23] ?_
   repeat (first |(refine p0_ (v:=?_) (a':=?_) rfl rfl (by kernel_rfl) (fun _ _ _ h=>h) (by rfl) ?_ ?_ ?_;rotate_left;(intro w';go_simp;with_reducible rfl);rotate_left;(simp only[Act.put,z1,z2,z3,i64_w,i32_w];rfl)) |(refine t0_ (v:=?_) (a':=?_) rfl rfl (by kernel_rfl) (fun _ _ _ h=>h) (by rfl) hHeld ?_ ?_ ?_;rotate_left;(rintro w' ⟨s0,s1,s2,s3,s4⟩;go_simp;with_reducible rfl);rotate_left;(simp only[Act.put,z1,z2,z3,i64_w,i32_w];rfl)) |fail)
   refine ran_ (m':=16777215) rfl ?_;have HO5:=Lib.hid HOWN.out.2.2.2;refine one_ (i:=24) (N:=some 53) (bb 29 33554431) rfl rfl (by kernel_rfl) (by decide) (fun K hK=>?_);refine goes_ Tryd.func19 (by kernel_rfl) rfl #[.int .i64 D1,.agg #[.int .i64 x.f1,.int .i64 x.f2,.int .i64 x.f3,.int .i64 x.f4]] (by rfl) rfl rfl (by (try simp only[List.map_toArray,List.map_cons,List.map_nil]);first |done |rfl) ?_;refine (entry_walk D1 x.f1 x.f2 x.f3 x.f4 hD1i hx1 hx2 hx3 hx4 _).mono ?_
   rintro e w5 ⟨rfl,hb5⟩
   refine⟨_,rfl,?_⟩;rw[HY.out];refine hK.out _ _ ⟨keepE hb5 hHeld.1,keepE hb5 hHeld.2.1,keepE hb5 hHeld.2.2.1,keepE hb5 hHeld.2.2.2.1,keepE hb5 hHeld.2.2.2.2⟩ (fun hHeld=>?_);clear hK K;refine norm_ (a':=?_) ?_ ?_
   rotate_left
   ·show Act.put _ (some 53) _=_
    simp only[Act.put,z1,z2,z3,i64_w,i32_w];rfl
   have hO4:=HOWN.out;have hR4:=HRW.out.drew;have hB4:=below_drew1 HBEL.out;have hG4:=hO4.2.2.1.drew;have hK4:=Kd.R_drew hO4.2.2.2;rw[hwd] at hR4 hB4 hG4 hK4;have HR5:=Lib.hid (hR4.belowS hb5);have HB5:=Lib.hid (Below.trans hB4 (hb5.mono (Nat.le_of_lt hR4.lt)));have HG5:=Lib.hid (hG4.belowS hb5);have HK5:=Lib.hid (Kd.R_below hK4 hb5);have HLN:=Lib.hid hO4.1;clear hO4 hR4 hB4 hG4 hK4 hb5 HOWN HRW HBEL HO5;refine one_ (i:=25) (N:=some 54) (bb 29 67108863) rfl rfl (by kernel_rfl) (by decide) (fun K hK=>?_);refine value_ (w1:=?_) (v:=?_) (by rfl) rfl ?_ ?_
   rotate_left 2
   ·go_simp
    constructor
    ·rfl
    ·rfl
   refine hK.out _ _ ⟨c_old hHeld.1,c_old hHeld.2.1,c_old hHeld.2.2.1,c_old hHeld.2.2.2.1,c_old hHeld.2.2.2.2⟩ (fun hHeld=>?_);clear hK K;refine norm_ (a':=?_) ?_ ?_
   rotate_left
   ·show Act.put _ (some 54) _=_
    simp only[Act.put,z1,z2,z3,i64_w,i32_w];rfl
   refine one_ (i:=26) (N:=some 55) (bb 29 134217727) rfl rfl (by kernel_rfl) (by decide) (fun K hK=>?_);refine Kd.R_append_step kRec (w0:=w) w.heap.size (by rfl) (.tmp 30) (.tmp 54) 24 43 (.agg #[(.int .i64 0),(.int .i64 0),(.int .i64 0),(.int .i64 0),(.string ⟨#[]⟩)]) 48 rfl Tryd.underlying24 info43 rfl (by decide) (by omega) (.slice A' k c') rs y [.int .i64 y.f0,.int .i64 y.f1,.int .i64 y.f2,.int .i64 y.f3,.string y.f4] (fun _=>True) (fun _=>False) rfl rfl ?aP (fun _ hk=>hk.elim) ?aF ?aO ?aB ?aS ?aL ?_
   (case aP=>exact k43_mkM _ _ _ y)
   (case aB=>exact HB5.out)
   (case aF=>exact (fun _ _=>trivial))
   (case aO=>exact HK5.out)
   (case aS=>exact HB5.out.size)
   (case aL=>have:=HLN.out;have:=HK.out.2;omega)
   intro v6 w6 ho hb hg hat;obtain⟨A6,c6,rfl⟩:=Kd.R_slice ho;have HR6:=Lib.hid (HR5.out.grown hg (Kd.R_ne HK5.out HR5.out.heap (by decide)));have HG6:=Lib.hid (HG5.out.grown hg (Kd.R_ne HK5.out HG5.out.heap (by decide)));have hl6:(rs++[y]).length=k+1:=by rw[List.length_append,HLN.out];rfl
   have hc6:k+1<=c6:=by have:=(Kd.R_reads' ho).2.1;omega
   rw[hl6] at ho ⊢;have HK6:=Lib.hid ho;have HB6:=Lib.hid hb;have HC6:=Lib.hid (And.intro hl6 hc6);clear ho hb hg hat hl6 hc6 HR5 HG5 HK5 HB5;have g5:=HG6.out.cell (j:=1) rfl;have f5:=HG6.out.free 1;refine hK.out _ _ ⟨g5,keepE HB6.out HU.out.1,keepE HB6.out HU.out.2.1,keepE HB6.out HU.out.2.2.1,keepE HB6.out HU.out.2.2.2⟩ (fun hHeld=>?_);clear hK K;refine norm_ (a':=?_) ?_ ?_
   rotate_left
   ·show Act.put _ (some 55) _=_
    simp only[Act.put,z1,z2,z3,i64_w,i32_w];rfl
   refine run_ [.p 27] ?_
   repeat (first |(refine p0_ (v:=?_) (a':=?_) rfl rfl (by kernel_rfl) (fun _ _ _ h=>h) (by rfl) ?_ ?_ ?_;rotate_left;(intro w';go_simp;with_reducible rfl);rotate_left;(simp only[Act.put,z1,z2,z3,i64_w,i32_w];rfl)) |fail)
   refine ran_ (m':=268435455) rfl ?_;refine last_ (i:=28) (N:=none) (bb 29 536870911) rfl rfl (by kernel_rfl) (by decide) (fun K hK=>?_);refine skip_ (w1:=?_) (by rfl) rfl ?_ ?_
   rotate_left
   ·go_simp
    rfl
   refine hK.out _ _ ?_;clear hK K g5 f5 hHeld;refine done_ (by kernel_rfl) ?_
   go_wp2
   go_roundw
   case rel=>
    refine⟨k+1,A6,c6,HK.out.1,HK.out.2,by go_num,by rw[HDN.out],?_,?_,?_⟩
    ·rw[HMN.out];exact⟨HC6.out.1,HC6.out.2,HG6.out.set 1 _,Kd.R_mono (Kd.R_far (p:=⟨w.heap.size+1,1,none⟩) (Kd.R_types HK6.out HG6.out.heap (by decide)) (fun _ hk=>hk.2) _) (fun _ _=>trivial)⟩
    ·exact HR6.out.set_other ⟨w.heap.size+1,1,none⟩ (by show w.heap.size≠w.heap.size+1;omega) _
    ·exact HB6.out.setCell (p:=⟨w.heap.size+1,1,none⟩) (Nat.le_succ _) _
   case measure=>
    have:=HK.out.1;simp[intOf];omega
  ·have htk:l.take k=l.take 12:=by
    by_cases h12:k=12
    ·rw[h12]
    ·have hkn:k=n:=by omega
     rw[List.take_of_length_le (by rw[HL.out];omega),List.take_of_length_le (by rw[HL.out];omega)]
   rw[htk] at hown;have g0:=hown.2.2.1.cell (j:=0) rfl;have g1:=hown.2.2.1.cell (j:=1) rfl;have r0:=hRw.cell (j:=0) rfl;have r1:=hRw.cell (j:=1) rfl;have f0:=hRw.free 0;have f1:=hRw.free 1;have HRW:=Lib.hid hRw;have HOWN:=Lib.hid hown;have HBEL:=Lib.hid hbel;clear htk hown hRw hbel;have hput:∀{W:World},Blk W w.heap.size 26 [.int .i64 0,.slice none 0 0]->Blk ((W.setCell ⟨w.heap.size,0,none⟩ (.int .i64 st)).setCell ⟨w.heap.size,1,none⟩ (.slice A' k c')) w.heap.size 26 [.int .i64 st,.slice A' k c']:=fun h=>(h.set 0 _).set 1 _
   have hfin:∀{W:World},OwnL w.heap.size W (w.heap.size+1) st A' k c' (madeF l)->Blk W w.heap.size 26 [.int .i64 0,.slice none 0 0]->Kd.R kRec 43 ((W.setCell ⟨w.heap.size,0,none⟩ (.int .i64 st)).setCell ⟨w.heap.size,1,none⟩ (.slice A' k c')) w.heap.size (fun _=>True) (.slice A' k c') (madeF l):=fun ho hr=>
    Kd.R_mono (Kd.R_far (p:=⟨w.heap.size,1,none⟩) (Kd.R_far (p:=⟨w.heap.size,0,none⟩) (Kd.R_types ho.2.2.2 hr.heap (by decide)) (fun _ hk=>hk.2) _) (fun _ hk=>hk.2) _) (fun _ _=>trivial)
   have hbf:∀{W:World},Below w.heap.size w W->Below w.heap.size w ((W.setCell ⟨w.heap.size,0,none⟩ (.int .i64 st)).setCell ⟨w.heap.size,1,none⟩ (.slice A' k c')):=fun h=>(h.setCell (p:=⟨w.heap.size,0,none⟩) (Nat.le_refl _) _).setCell (p:=⟨w.heap.size,1,none⟩) (Nat.le_refl _) _
   by_cases hkn:k<n
   ·have d1:decide ((k:Int)<(n:Int))=true:=decide_eq_true (by omega);have d2:decide ((k:Int)<12)=false:=decide_eq_false (by omega);clear hlt
    go_wp2
    refine bodyPost_ret (results_single (r:=.cell 4 26) rfl (.cell _ _ _ (0,0) _ rfl (hput HRW.out) Tryd.underlying26 rfl (by kernel_rfl) .nil)) rfl ?_;exact⟨_,rfl,hfin HOWN.out HRW.out,hbf HBEL.out⟩
   ·have d1:decide ((k:Int)<(n:Int))=false:=decide_eq_false (by omega);clear hlt
    go_wp2
    refine bodyPost_ret (results_single (r:=.cell 4 26) rfl (.cell _ _ _ (0,0) _ rfl (hput HRW.out) Tryd.underlying26 rfl (by kernel_rfl) .nil)) rfl ?_;exact⟨_,rfl,hfin HOWN.out HRW.out,hbf HBEL.out⟩
def aircheckref35_Made.f(a0:Int)(l1:List Five):Option (Int × List Rec):=if In a0∧∀x ∈ l1,inFive x then some (pkN a0 100,madeF l1) else none
def aircheckref35_Entry.f(a0 a1_0 a1_1 a1_2 a1_3:Int):Option (Int × Int × Int × Int × ByteArray):=if In a0∧In a1_0∧In a1_1∧In a1_2∧In a1_3 then some ((entF a0 a1_0 a1_1 a1_2 a1_3).f0,(entF a0 a1_0 a1_1 a1_2 a1_3).f1,(entF a0 a1_0 a1_1 a1_2 a1_3).f2,(entF a0 a1_0 a1_1 a1_2 a1_3).f3,(entF a0 a1_0 a1_1 a1_2 a1_3).f4) else none
end Go.Proofs.YtfdlmpicmkpabaaDoor.Ext
end
