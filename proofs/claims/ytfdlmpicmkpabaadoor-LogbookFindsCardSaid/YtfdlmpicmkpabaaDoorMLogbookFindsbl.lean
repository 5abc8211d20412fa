import Derived.Test.YtfdlmpicmkpabaaDoorMLogbookFindsbk
import Derived.Test.YtfdlmpicmkpabaaDoorMLogbookFindsac
import Derived.Test.YtfdlmpicmkpabaaDoorRows
import Derived.Test.YtfdlmpicmkpabaaDoorTie
import Derived.Test.YtfdlmpicmkpabaaDoorCards
import Derived.Test.YtfdlmpicmkpabaaDoorMLogbookFindsap
import Derived.WalkKit
import Derived.ProofKit
import Derived.OpenShut
import Derived.ShutString
import Derived.ChangeOld
import Derived.Below
import Derived.SizedLaws
import Derived.LaidMore
import Derived.Stop.Joined
import Derived.SevenTiedAt
import Derived.SliceStrings
import Derived.Lib.LaidTab
/-
  The law's contract, its pure statement, its row and its card. Conditions: the row's own.
-/
section
namespace Go.Proofs.YtfdlmpicmkpabaaDoor.PL
open Go.Proofs.YtfdlmpicmkpabaaDoor.Ext
attribute [local go_sem] u32_signed u32_max
open Go.RowKit Go.Proofs.YtfdlmpicmkpabaaDoorW.PrintWords Go.Proofs.YtfdlmpicmkpabaaDoorW.PrintLast Go.Proofs.YtfdlmpicmkpabaaDoorW.PrintMore
attribute [local go_sem] max2_int min2_int max_two min_two max_three min_three max_four min_four -- for this text's walks alone
set_option linter.unusedVariables false
set_option linter.unusedSimpArgs false
mutual
def airchecklaw35_LogbookFinds.j0:Nat->Int->Int->Int->Bool->Int->List (S43)->Option (Bool)
 |0,_,_,_,_,_,_=>none
 |k+1,x10,x11,x12,x60,x107000,x107001=>if x60=true then (some false) else (airchecklaw35_LogbookFinds.l0 k x10 x11 (wrap64 (x12+1)) x107000 x107001)
def airchecklaw35_LogbookFinds.l0:Nat->Int->Int->Int->Int->List (S43)->Option (Bool)
 |0,_,_,_,_,_=>none
 |k+1,x10,x11,x13,x107000,x107001=>if x13<(x107001.length:Int) then (if 0<=x13 then (if ((rd_T43 x107001 x13).f1)=x10 then (if ((rd_T43 x107001 x13).f0)<=x11 then (some false) else (airchecklaw35_LogbookFinds.l0 k x10 x11 (wrap64 (x13+1)) x107000 x107001)) else (airchecklaw35_LogbookFinds.l0 k x10 x11 (wrap64 (x13+1)) x107000 x107001)) else (none)) else (some true)
end
def airchecklaw35_LogbookFinds.f(k:Nat)(a0:Int)(l1:List (S75))(a2:Int)(a3:Int):Option (Bool):=(airchecklaw35_sane.f).bind fun t101=>(if t101=true then ((aircheckref35_Made.f a0 l1).bind fun bt102=>((airchecklaw35_pick.f a2 3).bind fun t107=>((airchecklaw35_pick.f a3 450).bind fun t108=>((logbook_Find.f bt102.1 bt102.2 (wrap64 (1+t107)) t108).bind fun t109=>(if t109<(-1) then (airchecklaw35_LogbookFinds.j0 k (wrap64 (1+t107)) t108 t109 true bt102.1 bt102.2) else (if t109>=(bt102.2.length:Int) then (airchecklaw35_LogbookFinds.j0 k (wrap64 (1+t107)) t108 t109 true bt102.1 bt102.2) else (if t109>=0 then (if 0<=t109 then (if t109<(bt102.2.length:Int) then (if ((rd_T43 bt102.2 t109).f1)=(wrap64 (1+t107)) then (airchecklaw35_LogbookFinds.j0 k (wrap64 (1+t107)) t108 t109 (decide (((rd_T43 bt102.2 t109).f0)>t108)) bt102.1 bt102.2) else (airchecklaw35_LogbookFinds.j0 k (wrap64 (1+t107)) t108 t109 true bt102.1 bt102.2)) else (none)) else (none)) else (airchecklaw35_LogbookFinds.j0 k (wrap64 (1+t107)) t108 t109 false bt102.1 bt102.2)))))))) else (some false))
set_option maxHeartbeats 8000000 in
set_option maxRecDepth 100000 in
theorem airchecklaw35_LogbookFinds.calls(k:Nat)(a0:Int)(A1:Option Addr)(c1:Nat)(l1:List (S75))(a2:Int)(a3:Int)(r:Bool)(w:World)(hr1:Kd.C k75 w A1 l1.length l1)(hc1:l1.length<=c1)(hG:GL w)(h:airchecklaw35_LogbookFinds.f k a0 l1 a2 a3=some r):
  Calls Tryd.prog 7 #[.int .i64 a0,.slice A1 l1.length c1,.int .i64 a2,.int .i64 a3] w fun e w'=>e=.returned (.bool r)∧Below w.heap.size w w':=by
 have hu26:=Tryd.underlying26;have HR1:=Aside0.mk hr1;have HC1:=Aside0.mk hc1;clear hr1 hc1;have HB:=Aside0.mk (Below.refl w.heap.size w);have H:((airchecklaw35_sane.f).bind fun t101=>(if t101=true then ((aircheckref35_Made.f a0 l1).bind fun bt102=>((airchecklaw35_pick.f a2 3).bind fun t107=>((airchecklaw35_pick.f a3 450).bind fun t108=>((logbook_Find.f bt102.1 bt102.2 (wrap64 (1+t107)) t108).bind fun t109=>(if t109<(-1) then (airchecklaw35_LogbookFinds.j0 k (wrap64 (1+t107)) t108 t109 true bt102.1 bt102.2) else (if t109>=(bt102.2.length:Int) then (airchecklaw35_LogbookFinds.j0 k (wrap64 (1+t107)) t108 t109 true bt102.1 bt102.2) else (if t109>=0 then (if 0<=t109 then (if t109<(bt102.2.length:Int) then (if ((rd_T43 bt102.2 t109).f1)=(wrap64 (1+t107)) then (airchecklaw35_LogbookFinds.j0 k (wrap64 (1+t107)) t108 t109 (decide (((rd_T43 bt102.2 t109).f0)>t108)) bt102.1 bt102.2) else (airchecklaw35_LogbookFinds.j0 k (wrap64 (1+t107)) t108 t109 true bt102.1 bt102.2)) else (none)) else (none)) else (airchecklaw35_LogbookFinds.j0 k (wrap64 (1+t107)) t108 t109 false bt102.1 bt102.2)))))))) else (some false)))=some r:=h;clear h;replace H:=Option.bind_eq_some_iff.mp H;obtain⟨t101,A50,H⟩:=H;replace H:(if t101=true then ((aircheckref35_Made.f a0 l1).bind fun bt102=>((airchecklaw35_pick.f a2 3).bind fun t107=>((airchecklaw35_pick.f a3 450).bind fun t108=>((logbook_Find.f bt102.1 bt102.2 (wrap64 (1+t107)) t108).bind fun t109=>(if t109<(-1) then (airchecklaw35_LogbookFinds.j0 k (wrap64 (1+t107)) t108 t109 true bt102.1 bt102.2) else (if t109>=(bt102.2.length:Int) then (airchecklaw35_LogbookFinds.j0 k (wrap64 (1+t107)) t108 t109 true bt102.1 bt102.2) else (if t109>=0 then (if 0<=t109 then (if t109<(bt102.2.length:Int) then (if ((rd_T43 bt102.2 t109).f1)=(wrap64 (1+t107)) then (airchecklaw35_LogbookFinds.j0 k (wrap64 (1+t107)) t108 t109 (decide (((rd_T43 bt102.2 t109).f0)>t108)) bt102.1 bt102.2) else (airchecklaw35_LogbookFinds.j0 k (wrap64 (1+t107)) t108 t109 true bt102.1 bt102.2)) else (none)) else (none)) else (airchecklaw35_LogbookFinds.j0 k (wrap64 (1+t107)) t108 t109 false bt102.1 bt102.2)))))))) else (some false))=some r:=H;have A5:=Aside0.mk A50;clear A50
 by_cases c6:t101=true
 ·subst c6;have H1:((aircheckref35_Made.f a0 l1).bind fun bt102=>((airchecklaw35_pick.f a2 3).bind fun t107=>((airchecklaw35_pick.f a3 450).bind fun t108=>((logbook_Find.f bt102.1 bt102.2 (wrap64 (1+t107)) t108).bind fun t109=>(if t109<(-1) then (airchecklaw35_LogbookFinds.j0 k (wrap64 (1+t107)) t108 t109 true bt102.1 bt102.2) else (if t109>=(bt102.2.length:Int) then (airchecklaw35_LogbookFinds.j0 k (wrap64 (1+t107)) t108 t109 true bt102.1 bt102.2) else (if t109>=0 then (if 0<=t109 then (if t109<(bt102.2.length:Int) then (if ((rd_T43 bt102.2 t109).f1)=(wrap64 (1+t107)) then (airchecklaw35_LogbookFinds.j0 k (wrap64 (1+t107)) t108 t109 (decide (((rd_T43 bt102.2 t109).f0)>t108)) bt102.1 bt102.2) else (airchecklaw35_LogbookFinds.j0 k (wrap64 (1+t107)) t108 t109 true bt102.1 bt102.2)) else (none)) else (none)) else (airchecklaw35_LogbookFinds.j0 k (wrap64 (1+t107)) t108 t109 false bt102.1 bt102.2))))))))=some r:=by rw[if_pos rfl] at H;exact H
  clear H;have H:=H1;clear H1;replace H:=Option.bind_eq_some_iff.mp H;obtain⟨⟨t102,t103⟩,A70,H⟩:=H;replace H:((airchecklaw35_pick.f a2 3).bind fun t107=>((airchecklaw35_pick.f a3 450).bind fun t108=>((logbook_Find.f t102 t103 (wrap64 (1+t107)) t108).bind fun t109=>(if t109<(-1) then (airchecklaw35_LogbookFinds.j0 k (wrap64 (1+t107)) t108 t109 true t102 t103) else (if t109>=(t103.length:Int) then (airchecklaw35_LogbookFinds.j0 k (wrap64 (1+t107)) t108 t109 true t102 t103) else (if t109>=0 then (if 0<=t109 then (if t109<(t103.length:Int) then (if ((rd_T43 t103 t109).f1)=(wrap64 (1+t107)) then (airchecklaw35_LogbookFinds.j0 k (wrap64 (1+t107)) t108 t109 (decide (((rd_T43 t103 t109).f0)>t108)) t102 t103) else (airchecklaw35_LogbookFinds.j0 k (wrap64 (1+t107)) t108 t109 true t102 t103)) else (none)) else (none)) else (airchecklaw35_LogbookFinds.j0 k (wrap64 (1+t107)) t108 t109 false t102 t103)))))))=some r:=H;have A7:=Aside0.mk A70;clear A70;replace H:=Option.bind_eq_some_iff.mp H;obtain⟨t107,A80,H⟩:=H;replace H:((airchecklaw35_pick.f a3 450).bind fun t108=>((logbook_Find.f t102 t103 (wrap64 (1+t107)) t108).bind fun t109=>(if t109<(-1) then (airchecklaw35_LogbookFinds.j0 k (wrap64 (1+t107)) t108 t109 true t102 t103) else (if t109>=(t103.length:Int) then (airchecklaw35_LogbookFinds.j0 k (wrap64 (1+t107)) t108 t109 true t102 t103) else (if t109>=0 then (if 0<=t109 then (if t109<(t103.length:Int) then (if ((rd_T43 t103 t109).f1)=(wrap64 (1+t107)) then (airchecklaw35_LogbookFinds.j0 k (wrap64 (1+t107)) t108 t109 (decide (((rd_T43 t103 t109).f0)>t108)) t102 t103) else (airchecklaw35_LogbookFinds.j0 k (wrap64 (1+t107)) t108 t109 true t102 t103)) else (none)) else (none)) else (airchecklaw35_LogbookFinds.j0 k (wrap64 (1+t107)) t108 t109 false t102 t103))))))=some r:=H;have A8:=Aside0.mk A80;clear A80;replace H:=Option.bind_eq_some_iff.mp H;obtain⟨t108,A90,H⟩:=H;replace H:((logbook_Find.f t102 t103 (wrap64 (1+t107)) t108).bind fun t109=>(if t109<(-1) then (airchecklaw35_LogbookFinds.j0 k (wrap64 (1+t107)) t108 t109 true t102 t103) else (if t109>=(t103.length:Int) then (airchecklaw35_LogbookFinds.j0 k (wrap64 (1+t107)) t108 t109 true t102 t103) else (if t109>=0 then (if 0<=t109 then (if t109<(t103.length:Int) then (if ((rd_T43 t103 t109).f1)=(wrap64 (1+t107)) then (airchecklaw35_LogbookFinds.j0 k (wrap64 (1+t107)) t108 t109 (decide (((rd_T43 t103 t109).f0)>t108)) t102 t103) else (airchecklaw35_LogbookFinds.j0 k (wrap64 (1+t107)) t108 t109 true t102 t103)) else (none)) else (none)) else (airchecklaw35_LogbookFinds.j0 k (wrap64 (1+t107)) t108 t109 false t102 t103)))))=some r:=H;have A9:=Aside0.mk A90;clear A90;replace H:=Option.bind_eq_some_iff.mp H;obtain⟨t109,A100,H⟩:=H;replace H:(if t109<(-1) then (airchecklaw35_LogbookFinds.j0 k (wrap64 (1+t107)) t108 t109 true t102 t103) else (if t109>=(t103.length:Int) then (airchecklaw35_LogbookFinds.j0 k (wrap64 (1+t107)) t108 t109 true t102 t103) else (if t109>=0 then (if 0<=t109 then (if t109<(t103.length:Int) then (if ((rd_T43 t103 t109).f1)=(wrap64 (1+t107)) then (airchecklaw35_LogbookFinds.j0 k (wrap64 (1+t107)) t108 t109 (decide (((rd_T43 t103 t109).f0)>t108)) t102 t103) else (airchecklaw35_LogbookFinds.j0 k (wrap64 (1+t107)) t108 t109 true t102 t103)) else (none)) else (none)) else (airchecklaw35_LogbookFinds.j0 k (wrap64 (1+t107)) t108 t109 false t102 t103))))=some r:=H;have A10:=Aside0.mk A100;clear A100;have HC11:=Aside0.mk H;clear H
  go_enter Tryd.func7,Tryd.ntmps7
  go_upto_region 7 with (first |((with_reducible refine gate_callee (f:=9) rfl ?_);refine goesL_ (some 14) rfl rfl Tryd.func9 (by kernel_rfl) rfl #[] rfl (by (try simp only[List.map_toArray,List.map_cons,List.map_nil]);first |done |rfl |(simp only[List.length_drop,List.length_take];rfl)) ?_;(with_reducible refine (airchecklaw35_sane.calls true _ ?side1 A5.out).mono ?_);(case side1=>first |exact hG |exact GL.below hG (by repeat (first |(with_reducible first |exact HB.out |apply below_alloc |apply pw_below_drewN |apply below_drew1) |exact HB.out)));rintro e w12 ⟨rfl,hb⟩;refine⟨_,rfl,?_⟩;have n0_:=Aside0.mk (below_step (by repeat (first |(with_reducible first |exact HB.out |apply below_alloc |apply pw_below_drewN |apply below_drew1) |exact HB.out)) hb);clear HB;have HB:=n0_;clear n0_;(try clear hb);(try clear hb2);(try clear hk);(try clear hi)) |((with_reducible refine gate_callee (f:=10) rfl ?_);refine goesL_ (some 18) rfl rfl Tryd.func10 (by kernel_rfl) rfl #[.int .i64 a0,.slice A1 l1.length c1] rfl (by (try simp only[List.map_toArray,List.map_cons,List.map_nil]);first |done |rfl |(simp only[List.length_drop,List.length_take];rfl)) ?_;(with_reducible refine (aircheckref35_Made.calls a0 _ _ l1 t102 t103 _ ?side1 ?side2 A7.out).mono ?_);(case side1=>repeat (first |exact (Kd.C_below HR1.out HB.out) |(with_reducible refine Kd.C_alloc ?_ _) |(with_reducible refine Kd.C_drewN ?_ _) |(with_reducible refine Kd.C_drew ?_)));(case side2=>exact HC1.out);rintro e w13 ⟨v104,rfl,ho0,hb⟩;refine⟨_,rfl,?_⟩;have n0_:=Aside0.mk (Kd.R_lower ho0 (below_size (by repeat (first |(with_reducible first |exact HB.out |apply below_alloc |apply pw_below_drewN |apply below_drew1) |exact HB.out))));have n1_:=Aside0.mk (below_step (by repeat (first |(with_reducible first |exact HB.out |apply below_alloc |apply pw_below_drewN |apply below_drew1) |exact HB.out)) hb);clear HB;have HO105:=n0_;have HB:=n1_;clear n0_ n1_;(try clear hb);(try clear hb2);(try clear hk);(try clear hi);(try clear ho0)) |((with_reducible refine gate_dst (N:=9) rfl ?_);(try (refine gate_guard (by rfl) ?_;dsimp only));refine box_event ?hg (N:=9) ?hd (cs:= #[.int .i64 0,.slice none 0 0]) (t:=26) ?hr ?_;(case hd=>rfl);(case hg=>rfl);(case hr=>first |(go_simp;done) |(go_simp;rfl));intro gb106 hg w14 hbox hb;have n0_:=Aside0.mk (Kd.R_below (by (with_reducible repeat (first |apply Kd.R_alloc |apply Kd.R_drewN |apply Kd.R_drew));exact HO105.out) hb);have n1_:=Aside0.mk (below_step (by repeat (first |(with_reducible first |exact HB.out |apply below_alloc |apply pw_below_drewN |apply below_drew1) |exact HB.out)) hb);have n2_:=Aside0.mk (hbox);have n3_:=Aside0.mk ((by rw[hg];exact (below_size (by repeat (first |(with_reducible first |exact HB.out |apply below_alloc |apply pw_below_drewN |apply below_drew1) |exact HB.out))):w.heap.size<=gb106));have n4_:=Aside0.mk ((by rw[hg];exact (below_size (by repeat (first |(with_reducible first |exact HB.out |apply below_alloc |apply pw_below_drewN |apply below_drew1) |exact HB.out))):w.heap.size<=gb106));clear HO105;clear HB;have HO105:=n0_;have HB:=n1_;have BK106:=n2_;have GW106:=n3_;have GE106:=n4_;clear n0_ n1_ n2_ n3_ n4_;clear hb hbox hg;have hcz15_0:w14.cell? ⟨gb106,0,none⟩=some (.int .i64 0):=(blk_cell BK106.out 0).trans rfl;have hcz15_1:w14.cell? ⟨gb106,1,none⟩=some (.slice none 0 0):=(blk_cell BK106.out 1).trans rfl;have hfz15_0:=blk_frozen BK106.out 0;have hfz15_1:=blk_frozen BK106.out 1;obtain⟨Ao16,co16,eo16⟩:=Kd.R_slice HO105.out;subst eo16) |((with_reducible refine gate_callee (f:=16) rfl ?_);refine goesL_ (some 20) rfl rfl Tryd.func16 (by kernel_rfl) rfl #[.int .i64 a2,.int .i64 3] rfl (by (try simp only[List.map_toArray,List.map_cons,List.map_nil]);first |done |rfl |(simp only[List.length_drop,List.length_take];rfl)) ?_;(with_reducible refine (airchecklaw35_pick.calls a2 3 t107 _ A8.out).mono ?_);rintro e w' ⟨rfl,⟨nd,rfl⟩⟩;refine⟨_,rfl,?_⟩) |((with_reducible refine gate_callee (f:=16) rfl ?_);refine goesL_ (some 23) rfl rfl Tryd.func16 (by kernel_rfl) rfl #[.int .i64 a3,.int .i64 450] rfl (by (try simp only[List.map_toArray,List.map_cons,List.map_nil]);first |done |rfl |(simp only[List.length_drop,List.length_take];rfl)) ?_;(with_reducible refine (airchecklaw35_pick.calls a3 450 t108 _ A9.out).mono ?_);rintro e w' ⟨rfl,⟨nd,rfl⟩⟩;refine⟨_,rfl,?_⟩) |((with_reducible refine gate_callee (f:=29) rfl ?_);refine goesL_ (some 27) rfl rfl Tryd.func29 (by kernel_rfl) rfl #[.agg #[.int .i64 t102,.slice Ao16 t103.length co16],.int .i64 (wrap64 (1+t107)),.int .i64 t108] rfl (by (try simp only[List.map_toArray,List.map_cons,List.map_nil]);first |done |rfl |(simp only[List.length_drop,List.length_take];rfl)) ?_;(with_reducible refine (logbook_Find.calls t102 _ _ t103 (wrap64 (1+t107)) t108 t109 _ ?side1 ?side2 A10.out).mono ?_);(case side1=>refine (Kd.R_reads' (e:=43) (base:=w.heap.size) (ok:=fun k_=>True) (n:=t103.length) (c:=co16) ?_).2.2;exact (by (with_reducible repeat (first |apply Kd.R_alloc |apply Kd.R_drewN |apply Kd.R_drew));exact (Kd.R_mono (Kd.R_far (p:=⟨gb106,1,none⟩) (Kd.R_far (p:=⟨gb106,0,none⟩) (Kd.R_types HO105.out BK106.out (by decide)) (fun _ hk=>hk.2) (.int .i64 t102)) (fun _ hk=>hk.2) (.slice Ao16 t103.length co16)) (fun _ h_=>h_.1))));(case side2=>exact (Kd.R_reads' HO105.out).2.1);rintro e w17 ⟨rfl,hb⟩;refine⟨_,rfl,?_⟩;have n0_:=Aside0.mk (Kd.R_below (by (with_reducible repeat (first |apply Kd.R_alloc |apply Kd.R_drewN |apply Kd.R_drew));exact (Kd.R_mono (Kd.R_far (p:=⟨gb106,1,none⟩) (Kd.R_far (p:=⟨gb106,0,none⟩) (Kd.R_types HO105.out BK106.out (by decide)) (fun _ hk=>hk.2) (.int .i64 t102)) (fun _ hk=>hk.2) (.slice Ao16 t103.length co16)) (fun _ h_=>h_.1))) hb);have n1_:=Aside0.mk (blk_below (g:=gb106) (o:=.cells #[.int .i64 t102,.slice Ao16 t103.length co16] 26 (0,0)) (by (with_reducible repeat (first |refine blk_drewN ?_ _ |refine blk_drew ?_ |refine blk_alloc ?_ _));refine blk_put (cs:= #[.int .i64 t102,.slice none 0 0]) ?_ 1 _ rfl;(with_reducible repeat (first |refine blk_drewN ?_ _ |refine blk_drew ?_ |refine blk_alloc ?_ _));refine blk_put (cs:= #[.int .i64 0,.slice none 0 0]) ?_ 0 _ rfl;(with_reducible repeat (first |refine blk_drewN ?_ _ |refine blk_drew ?_ |refine blk_alloc ?_ _));exact BK106.out) hb);have n2_:=Aside0.mk (below_step (by repeat (first |(with_reducible first |exact HB.out |apply below_alloc |apply pw_below_drewN |apply below_drew1 |refine below_set ?_ GE106.out) |exact HB.out)) hb);clear HO105;clear BK106;clear HB;have HO105:=n0_;have BK106:=n1_;have HB:=n2_;clear n0_ n1_ n2_;(try clear hb);(try clear hb2);(try clear hk);(try clear hi)))
  (try simp only[Act.put,List.setIfInBounds_toArray,List.set_cons_zero,List.set_cons_succ])
  go_cut [60] (fun v60 wc=>∃(kq:Nat) (x60_10:Bool),v60=.bool x60_10∧Aside0 (airchecklaw35_LogbookFinds.j0 kq (wrap64 (1+t107)) t108 t109 x60_10 t102 t103=some r)∧Aside0 (kq<=k)∧Aside0 (Kd.R k43 43 wc w.heap.size (fun _=>True) (.slice Ao16 t103.length co16) t103)∧Aside0 (wc.heap[gb106]?=some (.cells #[.int .i64 t102,(.slice Ao16 t103.length co16)] 26 (0,0)))∧Aside0 (Below w.heap.size w wc))
  case first=>
   have H:=HC11.out;clear HC11
   by_cases c18:t109<(-1)
   ·rw[if_pos c18] at H;have c18b0:decide (t109<(-1))=true:=decide_eq_true c18;clear c18
    (first |rw[c18b0] |(simp only[i64_w,i32_w];rw[c18b0]) |skip)
    have H':=Aside0.mk H;clear H
    go_wp2
    go_meet
    case rel=>exact⟨_,(true),(by first |rfl |(simp;done) |(simp[*];done)),H',⟨by first |omega |exact Nat.le_refl _⟩,⟨by (with_reducible repeat (first |apply Kd.R_alloc |apply Kd.R_drewN |apply Kd.R_drew));exact HO105.out⟩,⟨by (with_reducible repeat (first |refine blk_drewN ?_ _ |refine blk_drew ?_ |refine blk_alloc ?_ _));exact BK106.out⟩,⟨by repeat (first |(with_reducible first |exact HB.out |apply below_alloc |apply pw_below_drewN |apply below_drew1 |refine below_set ?_ GE106.out) |exact HB.out)⟩⟩
   ·rw[if_neg c18] at H;have c18b0:decide (t109<(-1))=false:=decide_eq_false c18;clear c18
    (first |rw[c18b0] |(simp only[i64_w,i32_w];rw[c18b0]) |skip)
    by_cases c19:t109>=(t103.length:Int)
    ·rw[if_pos c19] at H;have c19b0:decide ((t103.length:Int)<=t109)=true:=decide_eq_true c19;clear c19;have H':=Aside0.mk H;clear H;have hcz20_0:w17.cell? ⟨gb106,0,none⟩=some (.int .i64 t102):=(blk_cell BK106.out 0).trans rfl;have hcz20_1:w17.cell? ⟨gb106,1,none⟩=some (.slice Ao16 t103.length co16):=(blk_cell BK106.out 1).trans rfl;have hfz20_0:=blk_frozen BK106.out 0;have hfz20_1:=blk_frozen BK106.out 1
     go_wp2
     go_meet
     case rel=>exact⟨_,(true),(by first |rfl |(simp;done) |(simp[*];done)),H',⟨by first |omega |exact Nat.le_refl _⟩,⟨by (with_reducible repeat (first |apply Kd.R_alloc |apply Kd.R_drewN |apply Kd.R_drew));exact HO105.out⟩,⟨by (with_reducible repeat (first |refine blk_drewN ?_ _ |refine blk_drew ?_ |refine blk_alloc ?_ _));exact BK106.out⟩,⟨by repeat (first |(with_reducible first |exact HB.out |apply below_alloc |apply pw_below_drewN |apply below_drew1 |refine below_set ?_ GE106.out) |exact HB.out)⟩⟩
    ·rw[if_neg c19] at H;have c19b0:decide ((t103.length:Int)<=t109)=false:=decide_eq_false c19;clear c19
     by_cases c21:t109>=0
     ·rw[if_pos c21] at H;have c21b0:decide (0<=t109)=true:=decide_eq_true c21;clear c21
      by_cases c22:0<=t109
      ·rw[if_pos c22] at H;have c22b0:decide (0<=t109)=true:=decide_eq_true c22;clear c22
       by_cases c23:t109<(t103.length:Int)
       ·rw[if_pos c23] at H;have c23b0:decide (t109<(t103.length:Int))=true:=decide_eq_true c23;clear c23
        by_cases c24:((rd_T43 t103 t109).f1)=(wrap64 (1+t107))
        ·rw[if_pos c24] at H;have c24b0:(((rd_T43 t103 t109).f1)==(wrap64 (1+t107)))=true:=beq_iff_eq.mpr c24;have c24b1:(((rd_T43 t103 t109).f1) !=(wrap64 (1+t107)))=false:=bne_eq_false_iff_eq.mpr c24;clear c24;have H':=Aside0.mk H;clear H;have hcz25_0:w17.cell? ⟨gb106,0,none⟩=some (.int .i64 t102):=(blk_cell BK106.out 0).trans rfl;have hcz25_1:w17.cell? ⟨gb106,1,none⟩=some (.slice Ao16 t103.length co16):=(blk_cell BK106.out 1).trans rfl;have hfz25_0:=blk_frozen BK106.out 0;have hfz25_1:=blk_frozen BK106.out 1;have p110:0<=(t109:Int):=of_decide_eq_true (by first |(with_reducible assumption) |assumption);have q110:t109<(t103.length:Int):=of_decide_eq_true (by first |(with_reducible assumption) |assumption);obtain⟨ad110,e110,hx110_0,hx110_1,hx110_2,hx110_3,hx110_4⟩:=at_T43 (Kd.R_reads' HO105.out).2.2 t109 p110 q110
         cases e110
         replace p110:=eq_true p110;replace q110:=eq_true q110;have p111:0<=(t109:Int):=of_decide_eq_true (by first |(with_reducible assumption) |assumption);have q111:t109<(t103.length:Int):=of_decide_eq_true (by first |(with_reducible assumption) |assumption);obtain⟨ad111,e111,hx111_0,hx111_1,hx111_2,hx111_3,hx111_4⟩:=at_T43 (Kd.R_reads' HO105.out).2.2 t109 p111 q111;obtain rfl:ad110=ad111:=(by injection e111);replace p111:=eq_true p111;replace q111:=eq_true q111
         go_wp2
         go_meet
         case rel=>exact⟨_,(decide (((rd_T43 t103 t109).f0)>t108)),(by first |rfl |(simp;done) |(simp[*];done)),H',⟨by first |omega |exact Nat.le_refl _⟩,⟨by (with_reducible repeat (first |apply Kd.R_alloc |apply Kd.R_drewN |apply Kd.R_drew));exact HO105.out⟩,⟨by (with_reducible repeat (first |refine blk_drewN ?_ _ |refine blk_drew ?_ |refine blk_alloc ?_ _));exact BK106.out⟩,⟨by repeat (first |(with_reducible first |exact HB.out |apply below_alloc |apply pw_below_drewN |apply below_drew1 |refine below_set ?_ GE106.out) |exact HB.out)⟩⟩
        ·rw[if_neg c24] at H;have c24b0:(((rd_T43 t103 t109).f1)==(wrap64 (1+t107)))=false:=beq_eq_false_iff_ne.mpr c24;have c24b1:(((rd_T43 t103 t109).f1) !=(wrap64 (1+t107)))=true:=bne_iff_ne.mpr c24;have H':=Aside0.mk H;clear H;have hcz26_0:w17.cell? ⟨gb106,0,none⟩=some (.int .i64 t102):=(blk_cell BK106.out 0).trans rfl;have hcz26_1:w17.cell? ⟨gb106,1,none⟩=some (.slice Ao16 t103.length co16):=(blk_cell BK106.out 1).trans rfl;have hfz26_0:=blk_frozen BK106.out 0;have hfz26_1:=blk_frozen BK106.out 1;have p110:0<=(t109:Int):=of_decide_eq_true (by first |(with_reducible assumption) |assumption);have q110:t109<(t103.length:Int):=of_decide_eq_true (by first |(with_reducible assumption) |assumption);obtain⟨ad110,e110,hx110_0,hx110_1,hx110_2,hx110_3,hx110_4⟩:=at_T43 (Kd.R_reads' HO105.out).2.2 t109 p110 q110
         cases e110
         replace p110:=eq_true p110;replace q110:=eq_true q110
         go_wp2
         go_meet
         case rel=>exact⟨_,(true),(by first |rfl |(simp;done) |(simp[*];done)),H',⟨by first |omega |exact Nat.le_refl _⟩,⟨by (with_reducible repeat (first |apply Kd.R_alloc |apply Kd.R_drewN |apply Kd.R_drew));exact HO105.out⟩,⟨by (with_reducible repeat (first |refine blk_drewN ?_ _ |refine blk_drew ?_ |refine blk_alloc ?_ _));exact BK106.out⟩,⟨by repeat (first |(with_reducible first |exact HB.out |apply below_alloc |apply pw_below_drewN |apply below_drew1 |refine below_set ?_ GE106.out) |exact HB.out)⟩⟩
       ·rw[if_neg c23] at H;exact absurd H (by simp)
      ·rw[if_neg c22] at H;exact absurd H (by simp)
     ·rw[if_neg c21] at H;have c21b0:decide (0<=t109)=false:=decide_eq_false c21;clear c21;have H':=Aside0.mk H;clear H;have hcz27_0:w17.cell? ⟨gb106,0,none⟩=some (.int .i64 t102):=(blk_cell BK106.out 0).trans rfl;have hcz27_1:w17.cell? ⟨gb106,1,none⟩=some (.slice Ao16 t103.length co16):=(blk_cell BK106.out 1).trans rfl;have hfz27_0:=blk_frozen BK106.out 0;have hfz27_1:=blk_frozen BK106.out 1
      go_wp2
      go_meet
      case rel=>exact⟨_,(false),(by first |rfl |(simp;done) |(simp[*];done)),H',⟨by first |omega |exact Nat.le_refl _⟩,⟨by (with_reducible repeat (first |apply Kd.R_alloc |apply Kd.R_drewN |apply Kd.R_drew));exact HO105.out⟩,⟨by (with_reducible repeat (first |refine blk_drewN ?_ _ |refine blk_drew ?_ |refine blk_alloc ?_ _));exact BK106.out⟩,⟨by repeat (first |(with_reducible first |exact HB.out |apply below_alloc |apply pw_below_drewN |apply below_drew1 |refine below_set ?_ GE106.out) |exact HB.out)⟩⟩
  case rest=>
   clear HC11
   try clear c1
   try clear p1
   try clear q1
   try clear hx1
   try clear c2
   try clear p2
   try clear c6
   try clear p6
   try clear c7
   try clear c9
   try clear c10
   try clear p11
   try clear q11
   try clear hx11
   try clear c16
   try clear c18
   try clear c18b0
   try clear c19
   try clear c19b0
   try clear c21
   try clear c21b0
   try clear c22
   try clear c22b0
   try clear c23
   try clear c23b0
   try clear c24
   try clear c24b0
   try clear c24b1
   try clear hcz15_0
   try clear hcz15_1
   try clear hcz20_0
   try clear hcz20_1
   try clear hcz25_0
   try clear hcz25_1
   try clear hcz26_0
   try clear hcz26_1
   try clear hcz27_0
   try clear hcz27_1
   try clear hfz15_0
   try clear hfz15_1
   try clear hfz20_0
   try clear hfz20_1
   try clear hfz25_0
   try clear hfz25_1
   try clear hfz26_0
   try clear hfz26_1
   try clear hfz27_0
   try clear hfz27_1
   try clear hx110_0
   try clear hx110_1
   try clear hx110_2
   try clear hx110_3
   try clear hx110_4
   try clear hx111_0
   try clear hx111_1
   try clear hx111_2
   try clear hx111_3
   try clear hx111_4
   try clear p110
   try clear p111
   try clear q110
   try clear q111
   obtain⟨kq,x60_10,rfl,HA,HJ10,HO_107001,BK106,HB⟩:=hcut
   cases kq with
   |zero=>exact absurd HA.out (by simp[airchecklaw35_LogbookFinds.j0])
   |succ kj10=>
    have H:=HA.out;clear HA;simp only[airchecklaw35_LogbookFinds.j0] at H
    by_cases c28:x60_10=true
    ·subst c28;have H1:(some false)=some r:=by rw[if_pos rfl] at H;exact H
     clear H;have H:=H1;clear H1;obtain rfl:=Option.some.inj H
     go_wp2
     go_ret
     exact⟨by first |rfl |(simp[errW_none,errW_some]<;>rfl) |(simp[*,errW_none,errW_some]<;>rfl),by repeat (first |(with_reducible first |exact HB.out |apply below_alloc |apply pw_below_drewN |apply below_drew1 |refine below_set ?_ GE106.out) |exact HB.out)⟩
    ·replace c28:=Bool.eq_false_iff.mpr c28;subst c28;have H1:(airchecklaw35_LogbookFinds.l0 kj10 (wrap64 (1+t107)) t108 (wrap64 (t109+1)) t102 t103)=some r:=by rw[if_neg (show ¬(false=true) by decide)] at H;exact H
     clear H;have H:=H1;clear H1;have H':=Aside0.mk H;clear H
     go_wp2
     go_loopg [13] kj10 (fun kq v13 w'=>∃(x13_2:Int),v13=.int .i64 x13_2∧Aside0 (airchecklaw35_LogbookFinds.l0 kq (wrap64 (1+t107)) t108 x13_2 t102 t103=some r)∧Aside0 (kq<=kj10)∧Aside0 (Kd.R k43 43 w' w.heap.size (fun _=>True) (.slice Ao16 t103.length co16) t103)∧Aside0 (w'.heap[gb106]?=some (.cells #[.int .i64 t102,(.slice Ao16 t103.length co16)] 26 (0,0)))∧Aside0 (Below w.heap.size w w'))
     case atStart=>exact⟨(wrap64 (t109+1)),(by first |rfl |(simp;done) |(simp[*];done)),H',⟨Nat.le_refl _⟩,⟨by (with_reducible repeat (first |apply Kd.R_alloc |apply Kd.R_drewN |apply Kd.R_drew));exact HO_107001.out⟩,⟨by (with_reducible repeat (first |refine blk_drewN ?_ _ |refine blk_drew ?_ |refine blk_alloc ?_ _));exact BK106.out⟩,⟨by repeat (first |(with_reducible first |exact HB.out |apply below_alloc |apply pw_below_drewN |apply below_drew1 |refine below_set ?_ GE106.out) |exact HB.out)⟩⟩
     case round=>
      clear H'
      try clear c1
      try clear p1
      try clear q1
      try clear hx1
      try clear c2
      try clear p2
      try clear c6
      try clear p6
      try clear c7
      try clear c9
      try clear c10
      try clear p11
      try clear q11
      try clear hx11
      try clear c16
      try clear c18
      try clear c18b0
      try clear c19
      try clear c19b0
      try clear c21
      try clear c21b0
      try clear c22
      try clear c22b0
      try clear c23
      try clear c23b0
      try clear c24
      try clear c24b0
      try clear c24b1
      try clear c28
      try clear hcz15_0
      try clear hcz15_1
      try clear hcz20_0
      try clear hcz20_1
      try clear hcz25_0
      try clear hcz25_1
      try clear hcz26_0
      try clear hcz26_1
      try clear hcz27_0
      try clear hcz27_1
      try clear hfz15_0
      try clear hfz15_1
      try clear hfz20_0
      try clear hfz20_1
      try clear hfz25_0
      try clear hfz25_1
      try clear hfz26_0
      try clear hfz26_1
      try clear hfz27_0
      try clear hfz27_1
      try clear hx110_0
      try clear hx110_1
      try clear hx110_2
      try clear hx110_3
      try clear hx110_4
      try clear hx111_0
      try clear hx111_1
      try clear hx111_2
      try clear hx111_3
      try clear hx111_4
      try clear p1
      try clear p11
      try clear p110
      try clear p111
      try clear p2
      try clear p6
      try clear q1
      try clear q11
      try clear q110
      try clear q111
      obtain⟨x13_2,rfl,HA,HK2,HO_107001,BK106,HB⟩:=hrel
      cases gk with
      |zero=>exact absurd HA.out (by simp[airchecklaw35_LogbookFinds.l0])
      |succ k2=>
       have H:=HA.out;clear HA;simp only[airchecklaw35_LogbookFinds.l0] at H
       by_cases c29:x13_2<(t103.length:Int)
       ·rw[if_pos c29] at H;have c29b0:decide (x13_2<(t103.length:Int))=true:=decide_eq_true c29;clear c29
        by_cases c30:0<=x13_2
        ·rw[if_pos c30] at H;have c30b0:decide (0<=x13_2)=true:=decide_eq_true c30;clear c30
         by_cases c31:((rd_T43 t103 x13_2).f1)=(wrap64 (1+t107))
         ·rw[if_pos c31] at H;have c31b0:(((rd_T43 t103 x13_2).f1)==(wrap64 (1+t107)))=true:=beq_iff_eq.mpr c31;have c31b1:(((rd_T43 t103 x13_2).f1) !=(wrap64 (1+t107)))=false:=bne_eq_false_iff_eq.mpr c31;clear c31
          by_cases c32:((rd_T43 t103 x13_2).f0)<=t108
          ·rw[if_pos c32] at H;have c32b0:decide (((rd_T43 t103 x13_2).f0)<=t108)=true:=decide_eq_true c32;clear c32;obtain rfl:=Option.some.inj H;have hcz33_0:wr.cell? ⟨gb106,0,none⟩=some (.int .i64 t102):=(blk_cell BK106.out 0).trans rfl;have hcz33_1:wr.cell? ⟨gb106,1,none⟩=some (.slice Ao16 t103.length co16):=(blk_cell BK106.out 1).trans rfl;have hfz33_0:=blk_frozen BK106.out 0;have hfz33_1:=blk_frozen BK106.out 1;have p112:0<=(x13_2:Int):=of_decide_eq_true (by first |(with_reducible assumption) |assumption);have q112:x13_2<(t103.length:Int):=of_decide_eq_true (by first |(with_reducible assumption) |assumption);obtain⟨ad112,e112,hx112_0,hx112_1,hx112_2,hx112_3,hx112_4⟩:=at_T43 (Kd.R_reads' HO_107001.out).2.2 x13_2 p112 q112
           cases e112
           replace p112:=eq_true p112;replace q112:=eq_true q112;have p113:0<=(x13_2:Int):=of_decide_eq_true (by first |(with_reducible assumption) |assumption);have q113:x13_2<(t103.length:Int):=of_decide_eq_true (by first |(with_reducible assumption) |assumption);obtain⟨ad113,e113,hx113_0,hx113_1,hx113_2,hx113_3,hx113_4⟩:=at_T43 (Kd.R_reads' HO_107001.out).2.2 x13_2 p113 q113;obtain rfl:ad112=ad113:=(by injection e113);replace p113:=eq_true p113;replace q113:=eq_true q113
           go_wp2
           go_ret
           exact⟨by first |rfl |(simp[errW_none,errW_some]<;>rfl) |(simp[*,errW_none,errW_some]<;>rfl),by repeat (first |(with_reducible first |exact HB.out |apply below_alloc |apply pw_below_drewN |apply below_drew1 |refine below_set ?_ GE106.out) |exact HB.out)⟩
          ·rw[if_neg c32] at H;have c32b0:decide (((rd_T43 t103 x13_2).f0)<=t108)=false:=decide_eq_false c32;clear c32;have H':=Aside0.mk H;clear H;have hcz34_0:wr.cell? ⟨gb106,0,none⟩=some (.int .i64 t102):=(blk_cell BK106.out 0).trans rfl;have hcz34_1:wr.cell? ⟨gb106,1,none⟩=some (.slice Ao16 t103.length co16):=(blk_cell BK106.out 1).trans rfl;have hfz34_0:=blk_frozen BK106.out 0;have hfz34_1:=blk_frozen BK106.out 1;have p112:0<=(x13_2:Int):=of_decide_eq_true (by first |(with_reducible assumption) |assumption);have q112:x13_2<(t103.length:Int):=of_decide_eq_true (by first |(with_reducible assumption) |assumption);obtain⟨ad112,e112,hx112_0,hx112_1,hx112_2,hx112_3,hx112_4⟩:=at_T43 (Kd.R_reads' HO_107001.out).2.2 x13_2 p112 q112
           cases e112
           replace p112:=eq_true p112;replace q112:=eq_true q112;have p113:0<=(x13_2:Int):=of_decide_eq_true (by first |(with_reducible assumption) |assumption);have q113:x13_2<(t103.length:Int):=of_decide_eq_true (by first |(with_reducible assumption) |assumption);obtain⟨ad113,e113,hx113_0,hx113_1,hx113_2,hx113_3,hx113_4⟩:=at_T43 (Kd.R_reads' HO_107001.out).2.2 x13_2 p113 q113;obtain rfl:ad112=ad113:=(by injection e113);replace p113:=eq_true p113;replace q113:=eq_true q113
           go_wp2
           go_roundg k2
           case measure=>have:=HJ10.out;have:=HK2.out;omega
           case rel=>exact⟨(wrap64 (x13_2+1)),(by first |rfl |(simp;done) |(simp[*];done)),H',⟨by have:=HJ10.out;have:=HK2.out;omega⟩,⟨by (with_reducible repeat (first |apply Kd.R_alloc |apply Kd.R_drewN |apply Kd.R_drew));exact HO_107001.out⟩,⟨by (with_reducible repeat (first |refine blk_drewN ?_ _ |refine blk_drew ?_ |refine blk_alloc ?_ _));exact BK106.out⟩,⟨by repeat (first |(with_reducible first |exact HB.out |apply below_alloc |apply pw_below_drewN |apply below_drew1 |refine below_set ?_ GE106.out) |exact HB.out)⟩⟩
         ·rw[if_neg c31] at H;have c31b0:(((rd_T43 t103 x13_2).f1)==(wrap64 (1+t107)))=false:=beq_eq_false_iff_ne.mpr c31;have c31b1:(((rd_T43 t103 x13_2).f1) !=(wrap64 (1+t107)))=true:=bne_iff_ne.mpr c31;have H':=Aside0.mk H;clear H;have hcz35_0:wr.cell? ⟨gb106,0,none⟩=some (.int .i64 t102):=(blk_cell BK106.out 0).trans rfl;have hcz35_1:wr.cell? ⟨gb106,1,none⟩=some (.slice Ao16 t103.length co16):=(blk_cell BK106.out 1).trans rfl;have hfz35_0:=blk_frozen BK106.out 0;have hfz35_1:=blk_frozen BK106.out 1;have p112:0<=(x13_2:Int):=of_decide_eq_true (by first |(with_reducible assumption) |assumption);have q112:x13_2<(t103.length:Int):=of_decide_eq_true (by first |(with_reducible assumption) |assumption);obtain⟨ad112,e112,hx112_0,hx112_1,hx112_2,hx112_3,hx112_4⟩:=at_T43 (Kd.R_reads' HO_107001.out).2.2 x13_2 p112 q112
          cases e112
          replace p112:=eq_true p112;replace q112:=eq_true q112
          go_wp2
          go_roundg k2
          case measure=>have:=HJ10.out;have:=HK2.out;omega
          case rel=>exact⟨(wrap64 (x13_2+1)),(by first |rfl |(simp;done) |(simp[*];done)),H',⟨by have:=HJ10.out;have:=HK2.out;omega⟩,⟨by (with_reducible repeat (first |apply Kd.R_alloc |apply Kd.R_drewN |apply Kd.R_drew));exact HO_107001.out⟩,⟨by (with_reducible repeat (first |refine blk_drewN ?_ _ |refine blk_drew ?_ |refine blk_alloc ?_ _));exact BK106.out⟩,⟨by repeat (first |(with_reducible first |exact HB.out |apply below_alloc |apply pw_below_drewN |apply below_drew1 |refine below_set ?_ GE106.out) |exact HB.out)⟩⟩
        ·rw[if_neg c30] at H;exact absurd H (by simp)
       ·rw[if_neg c29] at H;have c29b0:decide (x13_2<(t103.length:Int))=false:=decide_eq_false c29;clear c29;obtain rfl:=Option.some.inj H;have hcz36_0:wr.cell? ⟨gb106,0,none⟩=some (.int .i64 t102):=(blk_cell BK106.out 0).trans rfl;have hcz36_1:wr.cell? ⟨gb106,1,none⟩=some (.slice Ao16 t103.length co16):=(blk_cell BK106.out 1).trans rfl;have hfz36_0:=blk_frozen BK106.out 0;have hfz36_1:=blk_frozen BK106.out 1
        go_wp2
        go_ret
        exact⟨by first |rfl |(simp[errW_none,errW_some]<;>rfl) |(simp[*,errW_none,errW_some]<;>rfl),by repeat (first |(with_reducible first |exact HB.out |apply below_alloc |apply pw_below_drewN |apply below_drew1 |refine below_set ?_ GE106.out) |exact HB.out)⟩
 ·replace c6:=Bool.eq_false_iff.mpr c6;subst c6;have H1:(some false)=some r:=by rw[if_neg (show ¬(false=true) by decide)] at H;exact H
  clear H;have H:=H1;clear H1;obtain rfl:=Option.some.inj H
  go_enter Tryd.func7,Tryd.ntmps7
  go_wp2_with (first |((with_reducible refine gate_callee (f:=9) rfl ?_);refine goesL_ (some 14) rfl rfl Tryd.func9 (by kernel_rfl) rfl #[] rfl (by (try simp only[List.map_toArray,List.map_cons,List.map_nil]);first |done |rfl |(simp only[List.length_drop,List.length_take];rfl)) ?_;(with_reducible refine (airchecklaw35_sane.calls false _ ?side1 A5.out).mono ?_);(case side1=>first |exact hG |exact GL.below hG (by repeat (first |(with_reducible first |exact HB.out |apply below_alloc |apply pw_below_drewN |apply below_drew1) |exact HB.out)));rintro e w37 ⟨rfl,hb⟩;refine⟨_,rfl,?_⟩;have n0_:=Aside0.mk (below_step (by repeat (first |(with_reducible first |exact HB.out |apply below_alloc |apply pw_below_drewN |apply below_drew1) |exact HB.out)) hb);clear HB;have HB:=n0_;clear n0_;(try clear hb);(try clear hb2);(try clear hk);(try clear hi)))
  go_ret
  exact⟨by first |rfl |(simp[errW_none,errW_some]<;>rfl) |(simp[*,errW_none,errW_some]<;>rfl),by repeat (first |(with_reducible first |exact HB.out |apply below_alloc |apply pw_below_drewN |apply below_drew1) |exact HB.out)⟩
end Go.Proofs.YtfdlmpicmkpabaaDoor.PL
end
section
set_option linter.unusedVariables false
set_option linter.unusedSimpArgs false
namespace Go.Proofs.YtfdlmpicmkpabaaDoor.Pure
set_option maxRecDepth 100000
open Go.RowKit Go.Proofs.YtfdlmpicmkpabaaDoorW.PrintWords Go.Proofs.YtfdlmpicmkpabaaDoorW.PrintLast Go.Proofs.YtfdlmpicmkpabaaDoorW.PrintMore Go.Proofs.YtfdlmpicmkpabaaDoor.Ext Go.Proofs.YtfdlmpicmkpabaaDoor.PL Go.Proofs.YtfdlmpicmkpabaaDoor.LbSpec
set_option maxRecDepth 100000
theorem lpick_is(c n:Int)(hc:In c)(hn:0<n):airchecklaw35_pick.f c n=some (pkN c n):=by
 unfold airchecklaw35_pick.f pkN
 by_cases h:c<0
 ·have e1:wrap64 (c+1)=c+1:=w64' (by omega) (by omega);have e2:wrap64 (-(c+1))= -(c+1):=w64' (by omega) (by omega);rw[if_pos h,if_pos h,if_neg (by omega),e1,e2,Int.tmod_eq_emod_of_nonneg (by omega)]
 ·rw[if_neg h,if_neg h,if_neg (by omega),Int.tmod_eq_emod_of_nonneg (by omega)]
theorem finds_l0(rs:List Rec)(kind at_ st x:Int)(m:Nat)(hm:rs.length<=1000)(h:∀i:Nat,m<=i->i<rs.length->hit kind at_ (rd_T43 rs (i:Int))=false):
  ∀(d i k:Nat),d=rs.length - i->m<=i->i<=rs.length->d<k->airchecklaw35_LogbookFinds.l0 k kind at_ (i:Int) st rs=some true:=by
 intro d
 induction d with
 |zero=>
  intro i k hd hi hn hk;obtain⟨k,rfl⟩:∃q,k=q+1:=⟨k - 1,by omega⟩
  show (if (i:Int)<(rs.length:Int) then _ else _)=_
  rw[if_neg (by omega)]
 |succ d ih=>
  intro i k hd hi hn hk;obtain⟨k,rfl⟩:∃q,k=q+1:=⟨k - 1,by omega⟩
  have hlt:i<rs.length:=by omega
  have c1:(i:Int)<(rs.length:Int):=by omega
  have hI:=ih (i+1) k (by omega) (by omega) (by omega) (by omega);have hh:=h i hi hlt;have e2:wrap64 ((i:Int)+1)=((i+1:Nat):Int):=by rw[w64' (by omega) (by omega)];omega
  show (if (i:Int)<(rs.length:Int) then (if 0<=(i:Int) then (if (rd_T43 rs (i:Int)).f1=kind then (if (rd_T43 rs (i:Int)).f0<=at_ then (some false) else (airchecklaw35_LogbookFinds.l0 k kind at_ (wrap64 ((i:Int)+1)) st rs)) else (airchecklaw35_LogbookFinds.l0 k kind at_ (wrap64 ((i:Int)+1)) st rs)) else none) else (some true))=some true
  rw[if_pos c1,if_pos (Int.natCast_nonneg i),e2,hI]
  by_cases h1:(rd_T43 rs (i:Int)).f1=kind
  ·rw[if_pos h1]
   by_cases h2:(rd_T43 rs (i:Int)).f0<=at_
   ·unfold hit at hh;rw[h1,decide_eq_true h2] at hh;simp at hh
   ·rw[if_neg h2]
  ·rw[if_neg h1]
theorem finds_j0(k:Nat)(x10 x11 x12:Int)(x60:Bool)(x136000:Int)(x136001:List Rec):airchecklaw35_LogbookFinds.j0 (k+1) x10 x11 x12 x60 x136000 x136001=if x60=true then (some false) else (airchecklaw35_LogbookFinds.l0 k x10 x11 (wrap64 (x12+1)) x136000 x136001):=rfl
theorem last_spec(kind at_:Int)(f:Nat->Rec):∀n:Nat,(lastOf kind at_ ((List.range n).reverse.map fun i=>(i,f i))= -1∧∀i,i<n->hit kind at_ (f i)=false)∨(∃m:Nat,m<n∧lastOf kind at_ ((List.range n).reverse.map fun i=>(i,f i))=(m:Int)∧hit kind at_ (f m)=true∧∀i,m<i->i<n->hit kind at_ (f i)=false)
 |0=>Or.inl ⟨rfl,fun i hi=>absurd hi (by omega)⟩
 |n+1=>by
  have e:((List.range (n+1)).reverse.map fun i=>(i,f i))=(n,f n)::((List.range n).reverse.map fun i=>(i,f i)):=by
   rw[List.range_succ,List.reverse_append];rfl
  rw[e]
  cases h:hit kind at_ (f n) with
  |true=>
   refine Or.inr ⟨n,by omega,?_,h,fun i h1 h2=>by omega⟩;unfold lastOf;rw[List.find?_cons_of_pos (by exact h)]
  |false=>
   have e2:lastOf kind at_ ((n,f n)::((List.range n).reverse.map fun i=>(i,f i)))=lastOf kind at_ ((List.range n).reverse.map fun i=>(i,f i)):=by
    unfold lastOf;rw[List.find?_cons_of_neg (by show ¬hit kind at_ (f n)=true;rw[h];decide)]
   rw[e2];rcases last_spec kind at_ f n with ⟨h1,h2⟩ |⟨m,h1,h2,h3,h4⟩
   ·refine Or.inl ⟨h1,fun i hi=>?_⟩
    by_cases hin:i=n
    ·rw[hin];exact h
    ·exact h2 i (by omega)
   ·refine Or.inr ⟨m,by omega,h2,h3,fun i hi1 hi2=>?_⟩
    by_cases hin:i=n
    ·rw[hin];exact h
    ·exact h4 i hi1 (by omega)
theorem LogbookFinds(a0:Int)(l1:List Five)(a2 a3:Int)(w0:(Lit.int .i64 a0).wf=true)(w1:∀x ∈ l1,W64 x.f0∧W64 x.f1∧W64 x.f2∧W64 x.f3∧W64 x.f4)(w2:(Lit.int .i64 a2).wf=true)(w3:(Lit.int .i64 a3).wf=true):∃k,airchecklaw35_LogbookFinds.f k a0 l1 a2 a3=some true:=by
 refine⟨1000,?_⟩;have h0:In a0:=DigSpec.wf64 w0;have h2:In a2:=DigSpec.wf64 w2;have h3:In a3:=DigSpec.wf64 w3;have h1:∀x ∈ l1,inFive x:=fun x hx=>by
  obtain⟨q0,q1,q2,q3,q4⟩:=w1 x hx;exact⟨DigSpec.wf64 q0,DigSpec.wf64 q1,DigSpec.wf64 q2,DigSpec.wf64 q3,DigSpec.wf64 q4⟩
 obtain⟨m1,m2,m3,m4,m5⟩:=made_ok a0 l1;have hk:=pkN_range a2 3 (by decide);unfold airchecklaw35_LogbookFinds.f airchecklaw35_sane.f;rw[Option.bind_some,if_pos rfl,made_is a0 l1 h0 h1,Option.bind_some,lpick_is _ _ h2 (by decide),Option.bind_some,lpick_is _ _ h3 (by decide),Option.bind_some]
 dsimp only
 generalize wrap64 (1+pkN a2 3)=K;generalize pkN a3 450=T;generalize madeF l1=rs at*
 generalize pkN a0 100=st at*
 clear hk m1 m3 m4 h0 h1 h2 h3 w0 w1 w2 w3;have hf:logbook_Find.f st rs K T=some (lastOf K T (recsB rs)):=by
  unfold logbook_Find.f findF;rw[if_pos (by unfold few6;omega),m5,if_pos rfl]
 rw[hf,Option.bind_some];have hs:=last_spec K T (fun i=>rd_T43 rs (i:Int)) rs.length;change (lastOf K T (recsB rs)= -1∧_)∨(∃m:Nat,_∧lastOf K T (recsB rs)=(m:Int)∧_) at hs;clear hf m5;have hj:∀(n:Int) (b:Bool),airchecklaw35_LogbookFinds.j0 1000 K T n b st rs=if b=true then (some false) else (airchecklaw35_LogbookFinds.l0 999 K T (wrap64 (n+1)) st rs):=fun n b=>finds_j0 999 K T n b st rs
 generalize lastOf K T (recsB rs)=L at*
 rcases hs with ⟨e,hall⟩ |⟨m,hm,e,hhit,hall⟩
 ·rw[e,if_neg (by decide),if_neg (by omega),if_neg (by decide)];rw[hj,if_neg (by decide),show wrap64 (-1+1)=((0:Nat):Int) from w64' (by decide) (by decide)];exact finds_l0 rs K T st 0 0 (by omega) (fun i _ hi=>hall i hi) rs.length 0 999 (by omega) (by omega) (by omega) (by omega)
 ·subst e;have c1:¬(m:Int)< -1:=by omega
  have c2:¬(m:Int)>=(rs.length:Int):=by omega
  have c3:(m:Int)>=0:=by omega
  have c4:(m:Int)<(rs.length:Int):=by omega
  have c5:m+1<=rs.length:=by omega
  have c6:rs.length - (m+1)<999:=by omega
  have c7:rs.length<=1000:=by omega
  unfold hit at hhit;rw[Bool.and_eq_true,decide_eq_true_eq,beq_iff_eq] at hhit;have c8:¬decide ((rd_T43 rs (m:Int)).f0>T)=true:=by
   rw[decide_eq_true_eq];exact Int.not_lt.2 hhit.2
  have e2:wrap64 ((m:Int)+1)=((m+1:Nat):Int):=by rw[w64' (by omega) (by omega)];omega
  rw[if_neg c1,if_neg c2,if_pos c3,if_pos c3,if_pos c4,if_pos hhit.1,hj,if_neg c8,e2];exact finds_l0 rs K T st 0 (m+1) c7 (fun i h1 hi=>hall i h1 hi) (rs.length - (m+1)) (m+1) 999 rfl (Nat.le_refl _) c5 c6
end Go.Proofs.YtfdlmpicmkpabaaDoor.Pure
end
section
namespace Go.Proofs.YtfdlmpicmkpabaaDoor.logbookFinds
open Go.ChangeShapes Go.WideShapes Go.ChangeAt Go.RowKit
open Go.ChangeMaps (open_string shut_string)
set_option linter.unusedVariables false
theorem own:ownKnob Tryd.prog.godebug=none:=by kernel_rfl
theorem laidOut:laidOutB Tryd.prog=true:=by kernel_rfl
theorem door_met(os:Os)(args:Array Value):laidMetH Tryd.prog [("aircheck/digest.round",Rows.laid_aircheck_digest_round)] ((World.doorLaid Tryd.prog 400 os).forCall (fun _ _=>0) ⟨#[],args,[]⟩).memory:=
 laidMetH_of_parts3 (fuel:=8) (laidMet_of_run' 8 (by kernel_rfl) (by kernel_rfl)) (by kernel_rfl) (by kernel_rfl)
set_option maxRecDepth 100000 in
set_option maxHeartbeats 1000000 in
theorem lifted(os:Os)(started:os.Started)(H:Type)(enc:TypeId × Value->H):
  ReturnsInHanded {} Tryd.checked os 7 .any (fun w args=>(Rows.logbookFindsSpec.pre enc Tryd.prog Tryd.f7 [] false w args∧laidMetH Tryd.prog [("aircheck/digest.round",Rows.laid_aircheck_digest_round)] w)∧sizedMet enc Tryd.prog Tryd.f7 (OpenSpec.ofChange Rows.logbookFindsSpec) false w args)
   (Rows.logbookFindsSpec.post enc Tryd.prog Tryd.f7 false true false false):=by
 refine returnsInHanded_of_change_and (C:=Tryd.checked) (X:=fun w _=>laidMetH Tryd.prog [("aircheck/digest.round",Rows.laid_aircheck_digest_round)] w) (fun _ _ _ hh h=>h.of_heap hh) own started (by kernel_rfl) Tryd.func7
  (ChangeSpec.witness_shaped (enc:=enc) (C:=Tryd.checked) (os:=os) (X:=fun w _=>laidMetH Tryd.prog [("aircheck/digest.round",Rows.laid_aircheck_digest_round)] w) false (World.doorLaid Tryd.prog 400 os) #[.int .i64 0,.slice none 0 0,.int .i64 0,.int .i64 0] 8 rfl (World.shaped_of_RefB (by kernel_rfl) (by kernel_rfl)) (by kernel_rfl) (by kernel_rfl) (by kernel_rfl) (door_met os _)) ?_
 intro W base args ds gs before hval0 hW hcnd hsz0 hL _;have hsz:(DataW.weightsEach Tryd.prog (Tryd.f7.params.toList++Rows.logbookFindsSpec.plain.varTypes Tryd.prog) (ds++gs)).all (· <=reachBytes)=true:=hsz0;have hval:∀(j:Nat) t v,Tryd.f7.params[j]?=some t->args[j]?=some v->Value.okWide Tryd.prog W .any base t v:=hval0
 have hW':=hW;obtain⟨p,q,hA0,hV,rfl,hfz,hnd⟩:=hW;have hA:DataW.TrodAll enc Tryd.prog W 0 (fun _=>true) true Tryd.f7.params.toList args.toList ds p:=hA0;rw[Tryd.params7] at hA hval hsz;obtain⟨v0,vs0,d0,ds0,p0,q0,hargs,rfl,rfl,h0,r0⟩:=trodAll_cons hA;obtain⟨v1,vs1,d1,ds1,p1,q1,rfl,rfl,rfl,h1,r1⟩:=trodAll_cons r0;obtain⟨v2,vs2,d2,ds2,p2,q2,rfl,rfl,rfl,h2,r2⟩:=trodAll_cons r1;obtain⟨v3,vs3,d3,ds3,p3,q3,rfl,rfl,rfl,h3,r3⟩:=trodAll_cons r2;obtain⟨rfl,rfl,rfl⟩:=trodAll_nil r3;obtain rfl:args= #[v0,v1,v2,v3]:=by cases args;simp_all
 obtain⟨rfl,rfl⟩:=trodVars_none hV;obtain⟨a0,rfl,rfl,rfl,w0⟩:=open_int Tryd.underlying3 (hval 0 3 v0 rfl rfl) h0;obtain⟨a1,len1,cap1,rfl⟩:=okWide_slice Tryd.underlying22 (hval 1 22 v1 rfl rfl);have k1:=h1;have lt1:∀x ∈ p1,x.block<W.heap.size:=by obtain⟨m,hm⟩:=k1;exact DataW.trod_lt m _ _ _ hm
 obtain⟨fuel1,hf1⟩:=h1;obtain⟨l1,rfl,hr1,hm1,hw1,hc1⟩:=Ext.rows75 (A:=a1) (len:=len1) (cap:=cap1) hf1;obtain⟨a2,rfl,rfl,rfl,w2⟩:=open_int Tryd.underlying3 (hval 2 3 v2 rfl rfl) h2;obtain⟨a3,rfl,rfl,rfl,w3⟩:=open_int Tryd.underlying3 (hval 3 3 v3 rfl rfl) h3;clear hA0 hval0 hsz0 hsz;have hG:Ext.GL W:=Ext.gl_of_laid hL;obtain⟨k,hk⟩:=Pure.LogbookFinds a0 l1 a2 a3 w0 hw1 w2 w3;refine (PL.airchecklaw35_LogbookFinds.calls k a0 _ _ l1 a2 a3 true W hr1 hc1 hG hk).mono fun e W' ⟨he,bel⟩=>?_
 subst he;exact⟨_,rfl,_,_,_,[],_,[],hW',trodAll_mk1 (shut_bool Tryd.underlying4 _),(trodAll_cons_mk (shut_int Tryd.underlying3 w0) (trodAll_cons_mk (Below.trod laidOut (by kernel_rfl) (of_decide_eq_true (by kernel_rfl)) k1 bel lt1) (trodAll_cons_mk (shut_int Tryd.underlying3 w2) (trodAll_cons_mk (shut_int Tryd.underlying3 w3) trodAll_mk0)))),rfl,bel.frame _,fun h=>by cases h⟩
theorem over:Rows.logbookFindsRow.holds Tryd.pinned (OpenSpec.ofChange Rows.logbookFindsSpec):=
 OpenClaim.holds_of_wide 7 Tryd.f7 rfl rfl rfl rfl rfl rfl rfl ⟨rfl,rfl,rfl,rfl,rfl⟩ rfl rfl rfl rfl rfl (by kernel_rfl) Tryd.func7 (by kernel_rfl)
  (of_decide_eq_true (by kernel_rfl)) (by unfold Func.isWrapper;first |(rw[if_pos (by decide+kernel)];kernel_rfl) |(rw[if_neg (by decide+kernel)];exact⟨rfl,rfl⟩))
  (fun os started H enc _=>lifted os started H enc)
theorem card_holds:Claim7.holds Tryd.pinned (.plain (OpenSpec.ofChange Rows.logbookFindsSpec)) Rows.logbookFindsCard:=
 Claim7.holds_tied_plain_at .later [] [.data] true (true,"5ce70843555c7c970a6d04322d33253341ba45aa19b436616530afadfd2e2009") true
  over (fun _ h=>by cases h) (by kernel_rfl) (fun _ h=>by cases h) logbookFinds_row_tie rfl ⟨rfl,rfl⟩ (by kernel_rfl) rfl
  (fun f fn hf hfn=>by
   obtain rfl:f=7:=Option.some.inj ((show Tryd.prog.funcNamed "aircheck/airchecklaw35.LogbookFinds" =some 7 by kernel_rfl).symm.trans hf) |>.symm
   obtain rfl:fn=Tryd.f7:=(Option.some.inj (Tryd.func7.symm.trans hfn)).symm;exact⟨by kernel_rfl,fun j t ht=>by
    rw[Tryd.params7] at ht;have hm:t ∈ [3,22,3,3]:=by simpa using Array.mem_of_getElem? ht
    have hall:([3,22,3,3].all fun u=> !Tryd.prog.wantsStandIn u)=true:=by kernel_rfl
    exact (show Tryd.prog.wantsStandIn t=false by simpa using List.all_eq_true.1 hall t hm)⟩)
  (by kernel_rfl)
end Go.Proofs.YtfdlmpicmkpabaaDoor.logbookFinds
namespace Go.Proofs.YtfdlmpicmkpabaaDoor
theorem logbookFinds_holds:Rows.LogbookFindsCardSaid:=logbookFinds.card_holds
#print axioms logbookFinds_holds
end Go.Proofs.YtfdlmpicmkpabaaDoor
end
