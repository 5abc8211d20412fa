import Derived.Test.YtfdlmpicmkpabaaDoorMLogbookDecodesag
/-
  Texts of this claim, one behind the other: what they prove stands above each.
-/
set_option linter.unusedVariables false
set_option linter.unusedSimpArgs false
section
namespace Go.Proofs.YtfdlmpicmkpabaaDoor.PB
open Go.Proofs.YtfdlmpicmkpabaaDoor.Ext
attribute [local go_sem] u32_signed u32_max
open Go.RowKit Go.Proofs.YtfdlmpicmkpabaaDoorW.PrintWords Go.Proofs.YtfdlmpicmkpabaaDoorW.PrintLast Go.Proofs.YtfdlmpicmkpabaaDoorW.PrintMore
attribute [local go_sem] max2_int min2_int max_two min_two max_three min_three max_four min_four -- for this text's walks alone
def airchecklaw35_example.f:Option (Int × (List (S43))):=some (4,(([(⟨10,1,7,(-1),(⟨#[110,101,119,115]⟩:ByteArray)⟩:S43),(⟨20,2,0,5,(⟨#[]⟩:ByteArray)⟩:S43),(⟨20,1,8,(-1),(⟨#[]⟩:ByteArray)⟩:S43)]:List (S43))))
set_option maxHeartbeats 8000000 in
set_option maxRecDepth 100000 in
theorem airchecklaw35_example.calls(r1:Int)(r2:List (S43))(w:World)(h:airchecklaw35_example.f=some (r1,r2)):
  Calls Tryd.prog 41 #[] w fun e w'=>∃v1_:Value,e=.returned (.agg #[.int .i64 r1,v1_])∧Kd.R k43 43 w' w.heap.size (fun _=>True) v1_ r2∧Below w.heap.size w w':=by
 have hu26:=Tryd.underlying26;have hu43:=Tryd.underlying43;have HB:=Aside0.mk (Below.refl w.heap.size w);have H:(some (4,(([(⟨10,1,7,(-1),(⟨#[110,101,119,115]⟩:ByteArray)⟩:S43),(⟨20,2,0,5,(⟨#[]⟩:ByteArray)⟩:S43),(⟨20,1,8,(-1),(⟨#[]⟩:ByteArray)⟩:S43)]:List (S43)))))=some (r1,r2):=h;clear h;obtain⟨y237,hy237⟩:∃y_:List (S43),y_=(([(⟨10,1,7,(-1),(⟨#[110,101,119,115]⟩:ByteArray)⟩:S43),(⟨20,2,0,5,(⟨#[]⟩:ByteArray)⟩:S43),(⟨20,1,8,(-1),(⟨#[]⟩:ByteArray)⟩:S43)]:List (S43))):=⟨_,rfl⟩
 replace H:(some (4,y237))=some (r1,r2):=by first |(rw[hy237];with_reducible exact H) |(have H2_:=(Option.bind_some _ _).symm.trans H;rw[hy237];with_reducible exact H2_) |(have H2_:=(Option.bind_some _ _).symm.trans H;with_reducible exact H2_) |with_reducible exact H |(rw[hy237];exact H) |exact H
 have Ny237:=Aside0.mk hy237;clear hy237;simp only[Option.some.injEq,Prod.mk.injEq] at H;obtain⟨rfl,rfl⟩:=H
 go_enter Tryd.func41,Tryd.ntmps41
 go_wp2_with (first |((with_reducible refine gate_dst (N:=0) rfl ?_);refine box_event ?hg (N:=0) ?hd (cs:= #[.int .i64 0,.slice none 0 0]) (t:=26) ?hr ?_;(case hd=>rfl);(case hg=>rfl);(case hr=>first |(go_simp;done) |(go_simp;rfl));intro gb236 hg w1 hbox hb;have n0_:=Aside0.mk (below_step (by repeat (first |(with_reducible first |exact HB.out |apply below_alloc |apply pw_below_drewN |apply below_drew1) |exact HB.out)) hb);have n1_:=Aside0.mk (hbox);have n2_:=Aside0.mk ((by rw[hg];exact (below_size (by repeat (first |(with_reducible first |exact HB.out |apply below_alloc |apply pw_below_drewN |apply below_drew1) |exact HB.out))):w.heap.size<=gb236));have n3_:=Aside0.mk ((by rw[hg];exact (below_size (by repeat (first |(with_reducible first |exact HB.out |apply below_alloc |apply pw_below_drewN |apply below_drew1) |exact HB.out))):w.heap.size<=gb236));clear HB;have HB:=n0_;have BK236:=n1_;have GW236:=n2_;have GE236:=n3_;clear n0_ n1_ n2_ n3_;clear hb hbox hg) |((with_reducible refine gate_dst (N:=4) rfl ?_);refine Kd.R_lit k43 _ 43 ?hg (N:=4) ?hd (xs:=([(⟨10,1,7,(-1),(⟨#[110,101,119,115]⟩:ByteArray)⟩:S43),(⟨20,2,0,5,(⟨#[]⟩:ByteArray)⟩:S43),(⟨20,1,8,(-1),(⟨#[]⟩:ByteArray)⟩:S43)]:List (S43))) (inner:=[.int .i64 10,.int .i64 1,.int .i64 7,.int .i64 (-1),.string (⟨#[110,101,119,115]⟩:ByteArray),.int .i64 20,.int .i64 2,.int .i64 0,.int .i64 5,.string (⟨#[]⟩:ByteArray),.int .i64 20,.int .i64 1,.int .i64 8,.int .i64 (-1),.string (⟨#[]⟩:ByteArray)]) (ok:=fun _=>True) (okp:=fun _=>True) ?hr ?hp (fun _ hk=>hk) trivial (Below.refl _ _) (Nat.le_refl _) (by simp) ?_;(case hd=>rfl);(case hg=>rfl);(case hr=>first |(go_simp;done) |(go_simp;rfl));(case hp=>exact (Reps.c5 (show Kd.M k43 _ _ _ (⟨10,1,7,(-1),(⟨#[110,101,119,115]⟩:ByteArray)⟩:S43) [.int .i64 10,.int .i64 1,.int .i64 7,.int .i64 (-1),.string (⟨#[110,101,119,115]⟩:ByteArray)] from (k43_mkM _ _ _ (⟨10,1,7,(-1),(⟨#[110,101,119,115]⟩:ByteArray)⟩:S43) )) (Reps.c5 (show Kd.M k43 _ _ _ (⟨20,2,0,5,(⟨#[]⟩:ByteArray)⟩:S43) [.int .i64 20,.int .i64 2,.int .i64 0,.int .i64 5,.string (⟨#[]⟩:ByteArray)] from (k43_mkM _ _ _ (⟨20,2,0,5,(⟨#[]⟩:ByteArray)⟩:S43) )) (Reps.c5 (show Kd.M k43 _ _ _ (⟨20,1,8,(-1),(⟨#[]⟩:ByteArray)⟩:S43) [.int .i64 20,.int .i64 1,.int .i64 8,.int .i64 (-1),.string (⟨#[]⟩:ByteArray)] from (k43_mkM _ _ _ (⟨20,1,8,(-1),(⟨#[]⟩:ByteArray)⟩:S43) )) (Reps.none _ _)))));intro v238 w2 ho3 hb hg_ hnew_;clear hg_ hnew_;(first |rw[<-Ny237.out] at ho3 |(simp only[Int.reduceToNat] at ho3;rw[<-Ny237.out] at ho3));have n0_:=Aside0.mk (Kd.R_lower ho3 (below_size (by repeat (first |(with_reducible first |exact HB.out |apply below_alloc |apply pw_below_drewN |apply below_drew1 |refine below_set ?_ GE236.out) |exact HB.out))));have n1_:=Aside0.mk (blk_below (g:=gb236) (o:=.cells #[.int .i64 0,.slice none 0 0] 26 (0,0)) (by (with_reducible repeat (first |refine blk_drewN ?_ _ |refine blk_drew ?_ |refine blk_alloc ?_ _));exact BK236.out) hb);have n2_:=Aside0.mk (below_step (by repeat (first |(with_reducible first |exact HB.out |apply below_alloc |apply pw_below_drewN |apply below_drew1 |refine below_set ?_ GE236.out) |exact HB.out)) hb);clear BK236;clear HB;have HO239:=n0_;have BK236:=n1_;have HB:=n2_;clear n0_ n1_ n2_;clear hb ho3;obtain⟨Ao4,co4,eo4⟩:=Kd.R_slice HO239.out;subst eo4;have hcz5_0:w2.cell? ⟨gb236,0,none⟩=some (.int .i64 0):=(blk_cell BK236.out 0).trans rfl;have hcz5_1:w2.cell? ⟨gb236,1,none⟩=some (.slice none 0 0):=(blk_cell BK236.out 1).trans rfl;have hfz5_0:=blk_frozen BK236.out 0;have hfz5_1:=blk_frozen BK236.out 1))
 refine bodyPost_ret (results_cell_row rfl _ _ gb236 26 #[.int .i64 4,.slice Ao4 y237.length co4] (0,0) _ rfl (by (with_reducible repeat (first |refine blk_drewN ?_ _ |refine blk_drew ?_ |refine blk_alloc ?_ _));refine blk_put (cs:= #[.int .i64 4,.slice none 0 0]) ?_ 1 _ rfl;(with_reducible repeat (first |refine blk_drewN ?_ _ |refine blk_drew ?_ |refine blk_alloc ?_ _));refine blk_put (cs:= #[.int .i64 0,.slice none 0 0]) ?_ 0 _ rfl;(with_reducible repeat (first |refine blk_drewN ?_ _ |refine blk_drew ?_ |refine blk_alloc ?_ _));exact BK236.out) Tryd.underlying26 rfl (by kernel_rfl)) rfl ?_;exact⟨_,by first |rfl |(simp[errW_none,errW_some]<;>rfl) |(simp[*,errW_none,errW_some]<;>rfl),by (with_reducible repeat (first |apply Kd.R_alloc |apply Kd.R_drewN |apply Kd.R_drew));exact Kd.R_mono (Kd.R_far (p:=⟨gb236,1,none⟩) (Kd.R_far (p:=⟨gb236,0,none⟩) (Kd.R_types HO239.out BK236.out (by decide)) (fun _ hk=>hk.2) (.int .i64 4)) (fun _ hk=>hk.2) (.slice Ao4 y237.length co4)) (fun _ hk=>trivial),by repeat (first |(with_reducible first |exact HB.out |apply below_alloc |apply pw_below_drewN |apply below_drew1 |refine below_set ?_ GE236.out) |exact HB.out)⟩
end Go.Proofs.YtfdlmpicmkpabaaDoor.PB
end
section
namespace Go.Proofs.YtfdlmpicmkpabaaDoor.PB
open Go.Proofs.YtfdlmpicmkpabaaDoor.Ext
attribute [local go_sem] u32_signed u32_max
open Go.RowKit Go.Proofs.YtfdlmpicmkpabaaDoorW.PrintWords Go.Proofs.YtfdlmpicmkpabaaDoorW.PrintLast Go.Proofs.YtfdlmpicmkpabaaDoorW.PrintMore
attribute [local go_sem] max2_int min2_int max_two min_two max_three min_three max_four min_four -- for this text's walks alone
theorem eqA43(d:Nat)(w:World)(x0 y0:Int)(x1 y1:Int)(x2 y2:Int)(x3 y3:Int)(x4 y4:ByteArray):
  (Op.equalIn (d+2) 43 (.agg #[.int .i64 x0,.int .i64 x1,.int .i64 x2,.int .i64 x3,.string x4]) (.agg #[.int .i64 y0,.int .i64 y1,.int .i64 y2,.int .i64 y3,.string y4])).run Tryd.prog w=.ok (x0==y0&&(x1==y1&&(x2==y2&&(x3==y3&&(x4.toList==y4.toList))))) w:=by
 refine eqA_of Tryd.underlying43 (by kernel_rfl) ?_;refine eqf_cons (by rfl) (by go_simp;rfl) (by go_simp;rfl) (by go_simp) ?_;refine eqf_cons (by rfl) (by go_simp;rfl) (by go_simp;rfl) (by go_simp) ?_;refine eqf_cons (by rfl) (by go_simp;rfl) (by go_simp;rfl) (by go_simp) ?_;refine eqf_cons (by rfl) (by go_simp;rfl) (by go_simp;rfl) (by go_simp) ?_;exact eqf_last (by rfl) (by go_simp;rfl) (by go_simp;rfl) (by go_simp)
end Go.Proofs.YtfdlmpicmkpabaaDoor.PB
end
section
namespace Go.Proofs.YtfdlmpicmkpabaaDoor.PB
open Go.Proofs.YtfdlmpicmkpabaaDoor.Ext
attribute [local go_sem] u32_signed u32_max
open Go.RowKit Go.Proofs.YtfdlmpicmkpabaaDoorW.PrintWords Go.Proofs.YtfdlmpicmkpabaaDoorW.PrintLast Go.Proofs.YtfdlmpicmkpabaaDoorW.PrintMore
attribute [local go_sem] max2_int min2_int max_two min_two max_three min_three max_four min_four -- for this text's walks alone
mutual
def aircheckref02_extended.l0:Nat->ByteArray->List Int->Int->Option (List Int)
 |0,_,_,_=>none
 |k+1,x0,x3,x4=>if x4<(x0.size:Int) then (if 0<=x4 then (if x3.length<140737488355328 then (aircheckref02_extended.l0 k x0 (x3++[bt x0 x4]) (wrap64 (x4+1))) else (none)) else (none)) else (if x3.length<140737488355328 then (aircheckref02_extended.l1 k x0 (x3++[128])) else (none))
def aircheckref02_extended.l1:Nat->ByteArray->List Int->Option (List Int)
 |0,_,_=>none
 |k+1,x0,x3=>if ((x3.length:Int)%64)=56 then (aircheckref02_extended.l2 k x0 x3 7) else (if x3.length<140737488355328 then (aircheckref02_extended.l1 k x0 (x3++[0])) else (none))
def aircheckref02_extended.l2:Nat->ByteArray->List Int->Int->Option (List Int)
 |0,_,_,_=>none
 |k+1,x0,x3,x5=>if x5>=0 then (if 0<=(wrap64 (8*x5)) then (if x3.length<140737488355328 then (aircheckref02_extended.l2 k x0 (x3++[(shr .i64 (wrap64 (8*(x0.size:Int))) (wrap64 (8*x5)))%256]) (wrap64 (x5 - 1))) else (none)) else (none)) else (some x3)
end
def aircheckref02_extended.f(k:Nat)(a0:ByteArray):Option (List Int):=aircheckref02_extended.l0 k a0 ([]:List Int) 0
set_option maxHeartbeats 8000000 in
set_option maxRecDepth 100000 in
theorem aircheckref02_extended.calls(k:Nat)(a0:ByteArray)(r:List Int)(w:World)(h:aircheckref02_extended.f k a0=some r):
  Calls Tryd.prog 75 #[.string a0] w fun e w'=>∃v0_:Value,e=.returned (v0_)∧Kd.R (Kd.int .u8) 5 w' w.heap.size (fun _=>True) v0_ r∧Below w.heap.size w w':=by
 have HB:=Aside0.mk (Below.refl w.heap.size w);have H:(aircheckref02_extended.l0 k a0 ([]:List Int) 0)=some r:=h;clear h;have H':=Aside0.mk H;clear H
 go_enter Tryd.func75,Tryd.ntmps75
 go_wp2
 go_loopg [3,4] k (fun kq v3 v4 w'=>∃(x3_1:List Int) (x4_1:Int),v4=.int .i64 x4_1∧Aside0 (aircheckref02_extended.l0 kq a0 x3_1 x4_1=some r)∧Aside0 (kq<=k)∧Aside0 (Kd.R (Kd.int .u8) 5 w' w.heap.size (fun _=>True) v3 x3_1)∧Aside0 (Below w.heap.size w w'))
 case atStart=>exact⟨(([]:List Int)),(0),(by first |rfl |(simp;done) |(simp[*];done)),H',⟨Nat.le_refl _⟩,⟨by first |exact Kd.R_nil _ _ _ _ _ |exact Kd.N_nil _ _ _ _ _ |exact Kd.V_nil _ _ _ _ _ |exact Kd.Q_nil _ _ _ _ _ |exact Kd.S_nil _ _ _ _ _⟩,⟨by repeat (first |(with_reducible first |exact HB.out |apply below_alloc |apply pw_below_drewN |apply below_drew1) |exact HB.out)⟩⟩
 case round=>
  clear H';obtain⟨x3_1,x4_1,rfl,HA,HK1,HO_3,HB⟩:=hrel
  cases gk with
  |zero=>exact absurd HA.out (by simp[aircheckref02_extended.l0])
  |succ k1=>
   have H:=HA.out;clear HA;simp only[aircheckref02_extended.l0] at H
   by_cases c2:x4_1<(a0.size:Int)
   ·rw[if_pos c2] at H;have c2b0:decide (x4_1<(a0.size:Int))=true:=decide_eq_true c2;clear c2
    by_cases c3:0<=x4_1
    ·rw[if_pos c3] at H;have c3b0:decide (0<=x4_1)=true:=decide_eq_true c3;clear c3
     by_cases c5:x3_1.length<140737488355328
     ·rw[if_pos c5] at H;have LMc5:=Aside0.mk c5;clear c5;obtain⟨y108,hy108⟩:∃y_:List Int,y_=(x3_1++[bt a0 x4_1]):=⟨_,rfl⟩
      replace H:(aircheckref02_extended.l0 k1 a0 y108 (wrap64 (x4_1+1)))=some r:=by first |(rw[hy108];with_reducible exact H) |(have H2_:=(Option.bind_some _ _).symm.trans H;rw[hy108];with_reducible exact H2_) |(have H2_:=(Option.bind_some _ _).symm.trans H;with_reducible exact H2_) |with_reducible exact H |(rw[hy108];exact H) |exact H
      have Ny108:=Aside0.mk hy108;clear hy108;have H':=Aside0.mk H;clear H;have p4:0<=(x4_1:Int):=of_decide_eq_true (by first |(with_reducible assumption) |assumption);have q4:x4_1<(a0.size:Int):=of_decide_eq_true (by first |(with_reducible assumption) |assumption);have hx4:=bt_at a0 x4_1;replace p4:=eq_true p4;replace q4:=eq_true q4
      go_wp2_with (first |((with_reducible refine gate_builtin (b:=.append) (xs:= #[.tmp 12,.tmp 16]) rfl ?_);at_builtin;refine Kd.R_append (Kd.int .u8) (w0:=w) w.heap.size rfl (.tmp 12) (.tmp 16) 48 5 (.int .u8 0) 1 rfl Tryd.underlying48 info5 rfl (by decide) (by omega) u3 x3_1 (bt a0 x4_1) [.int .u8 (bt a0 x4_1)] (fun _=>True) (fun _=>False) rfl rfl ?aP (fun _ hk=>hk.elim) ?aF ?aO ?aB ?aS ?aL ?_;(case aP=>exact rfl);(case aB=>exact (by repeat (first |(with_reducible first |exact HB.out |apply below_alloc |apply pw_below_drewN |apply below_drew1) |exact HB.out)));(case aF=>exact (fun _ _=>trivial));(case aO=>exact (by (with_reducible repeat (first |apply Kd.R_alloc |apply Kd.R_drewN |apply Kd.R_drew));exact HO_3.out));(case aS=>exact (below_size (by repeat (first |(with_reducible first |exact HB.out |apply below_alloc |apply pw_below_drewN |apply below_drew1) |exact HB.out))));(case aL=>have:=LMc5.out;omega);intro v109 w6 ho hb hg hat;rw[<-Ny108.out] at ho;have n0_:=Aside0.mk (hb);have n1_:=Aside0.mk (ho);clear HB;clear HO_3;have HB:=n0_;have HO110:=n1_;clear n0_ n1_;clear ho hb hg hat))
      go_roundg k1
      case measure=>have:=HK1.out;omega
      case rel=>exact⟨(y108),(wrap64 (x4_1+1)),(by first |rfl |(simp;done) |(simp[*];done)),H',⟨by have:=HK1.out;omega⟩,⟨by (with_reducible repeat (first |apply Kd.R_alloc |apply Kd.R_drewN |apply Kd.R_drew));exact HO110.out⟩,⟨by repeat (first |(with_reducible first |exact HB.out |apply below_alloc |apply pw_below_drewN |apply below_drew1) |exact HB.out)⟩⟩
     ·rw[if_neg c5] at H;exact absurd H (by simp)
    ·rw[if_neg c3] at H;exact absurd H (by simp)
   ·rw[if_neg c2] at H;have c2b0:decide (x4_1<(a0.size:Int))=false:=decide_eq_false c2;clear c2
    by_cases c7:x3_1.length<140737488355328
    ·rw[if_pos c7] at H;have LMc7:=Aside0.mk c7;clear c7;obtain⟨y111,hy111⟩:∃y_:List Int,y_=(x3_1++[128]):=⟨_,rfl⟩
     replace H:(aircheckref02_extended.l1 k1 a0 y111)=some r:=by first |(rw[hy111];with_reducible exact H) |(have H2_:=(Option.bind_some _ _).symm.trans H;rw[hy111];with_reducible exact H2_) |(have H2_:=(Option.bind_some _ _).symm.trans H;with_reducible exact H2_) |with_reducible exact H |(rw[hy111];exact H) |exact H
     have Ny111:=Aside0.mk hy111;clear hy111;have H':=Aside0.mk H;clear H
     go_wp2_with (first |((with_reducible refine gate_builtin (b:=.append) (xs:= #[.tmp 18,.tmp 19]) rfl ?_);at_builtin;refine Kd.R_append (Kd.int .u8) (w0:=w) w.heap.size rfl (.tmp 18) (.tmp 19) 48 5 (.int .u8 0) 1 rfl Tryd.underlying48 info5 rfl (by decide) (by omega) u3 x3_1 128 [.int .u8 128] (fun _=>True) (fun _=>False) rfl rfl ?aP (fun _ hk=>hk.elim) ?aF ?aO ?aB ?aS ?aL ?_;(case aP=>exact rfl);(case aB=>exact (by repeat (first |(with_reducible first |exact HB.out |apply below_alloc |apply pw_below_drewN |apply below_drew1) |exact HB.out)));(case aF=>exact (fun _ _=>trivial));(case aO=>exact (by (with_reducible repeat (first |apply Kd.R_alloc |apply Kd.R_drewN |apply Kd.R_drew));exact HO_3.out));(case aS=>exact (below_size (by repeat (first |(with_reducible first |exact HB.out |apply below_alloc |apply pw_below_drewN |apply below_drew1) |exact HB.out))));(case aL=>have:=LMc7.out;omega);intro v112 w8 ho hb hg hat;rw[<-Ny111.out] at ho;have n0_:=Aside0.mk (hb);have n1_:=Aside0.mk (ho);clear HB;clear HO_3;have HB:=n0_;have HO113:=n1_;clear n0_ n1_;clear ho hb hg hat))
     go_loopg [3] k1 (fun kq v3 w'=>∃(x3_2:List Int),Aside0 (aircheckref02_extended.l1 kq a0 x3_2=some r)∧Aside0 (kq<=k1)∧Aside0 (Kd.R (Kd.int .u8) 5 w' w.heap.size (fun _=>True) v3 x3_2)∧Aside0 (Below w.heap.size w w'))
     case atStart=>exact⟨(y111),H',⟨Nat.le_refl _⟩,⟨by (with_reducible repeat (first |apply Kd.R_alloc |apply Kd.R_drewN |apply Kd.R_drew));exact HO113.out⟩,⟨by repeat (first |(with_reducible first |exact HB.out |apply below_alloc |apply pw_below_drewN |apply below_drew1) |exact HB.out)⟩⟩
     case round=>
      clear H'
      (try clear c2);(try clear c2b0);(try clear p2);(try clear c3);(try clear c3b0);(try clear p4);(try clear q4);(try clear hx4);(try clear c5);(try clear p6);(try clear c7);(try clear p4);(try clear q4)
      obtain⟨x3_2,HA,HK2,HO_3,HB⟩:=hrel
      cases gk with
      |zero=>exact absurd HA.out (by simp[aircheckref02_extended.l1])
      |succ k2=>
       have H:=HA.out;clear HA;simp only[aircheckref02_extended.l1] at H
       by_cases c9:((x3_2.length:Int)%64)=56
       ·rw[if_pos c9] at H;have c9b0:(((x3_2.length:Int)%64)==56)=true:=beq_iff_eq.mpr c9;have c9b1:(((x3_2.length:Int)%64) !=56)=false:=bne_eq_false_iff_eq.mpr c9;clear c9;have H':=Aside0.mk H;clear H;obtain⟨Ao10,co10,eo10⟩:=Kd.R_slice HO_3.out;subst eo10
        go_wp2
        go_loopg [3,5] k2 (fun kq v3 v5 w'=>∃(x3_3:List Int) (x5_3:Int),v5=.int .i64 x5_3∧Aside0 (aircheckref02_extended.l2 kq a0 x3_3 x5_3=some r)∧Aside0 (kq<=k2)∧Aside0 (Kd.R (Kd.int .u8) 5 w' w.heap.size (fun _=>True) v3 x3_3)∧Aside0 (Below w.heap.size w w'))
        case atStart=>exact⟨(x3_2),(7),(by first |rfl |(simp;done) |(simp[*];done)),H',⟨Nat.le_refl _⟩,⟨by (with_reducible repeat (first |apply Kd.R_alloc |apply Kd.R_drewN |apply Kd.R_drew));exact HO_3.out⟩,⟨by repeat (first |(with_reducible first |exact HB.out |apply below_alloc |apply pw_below_drewN |apply below_drew1) |exact HB.out)⟩⟩
        case round=>
         clear H'
         (try clear c2);(try clear c2b0);(try clear p2);(try clear c3);(try clear c3b0);(try clear p4);(try clear q4);(try clear hx4);(try clear c5);(try clear p6);(try clear c7);(try clear c9);(try clear c9b0);(try clear c9b1);(try clear p2);(try clear p4);(try clear p6);(try clear q4)
         obtain⟨x3_3,x5_3,rfl,HA,HK3,HO_3,HB⟩:=hrel
         cases gk with
         |zero=>exact absurd HA.out (by simp[aircheckref02_extended.l2])
         |succ k3=>
          have H:=HA.out;clear HA;simp only[aircheckref02_extended.l2] at H
          by_cases c11:x5_3>=0
          ·rw[if_pos c11] at H;have c11b0:decide (0<=x5_3)=true:=decide_eq_true c11;clear c11;obtain⟨ji12,hji12⟩:∃j_:Int,(wrap64 (8*x5_3))=j_:=⟨_,rfl⟩
           replace H:(if 0<=(ji12) then (if x3_3.length<140737488355328 then (aircheckref02_extended.l2 k3 a0 (x3_3++[(shr .i64 (wrap64 (8*(a0.size:Int))) (ji12))%256]) (wrap64 (x5_3 - 1))) else (none)) else (none))=some r:=by first |(rw[hji12] at H;exact H) |(simp only[hji12] at H ⊢;exact H)
           have hji12w:(IntKind.i64.wrap (8*x5_3))=ji12:=(i64_w _).trans hji12
           by_cases c13:0<=(ji12)
           ·rw[if_pos c13] at H;have c13b0:=eq_true c13;have c13b1:decide (0<=(ji12))=true:=decide_eq_true c13;clear c13;obtain⟨ji14,hji14⟩:∃j_:Int,(shr .i64 (wrap64 (8*(a0.size:Int))) (ji12))=j_:=⟨_,rfl⟩
            replace H:(if x3_3.length<140737488355328 then (aircheckref02_extended.l2 k3 a0 (x3_3++[(ji14)%256]) (wrap64 (x5_3 - 1))) else (none))=some r:=by first |(rw[hji14] at H;exact H) |(simp only[hji14] at H ⊢;exact H)
            have hji14_:((wrap64 (8*(a0.size:Int))) / 2 ^ min (ji12).toNat 64)=ji14:=hji14;have hji14z:(ji12)<=64->((wrap64 (8*(a0.size:Int))) / 2 ^ (ji12).toNat)=ji14:=shr_small hji14
            by_cases c15:x3_3.length<140737488355328
            ·rw[if_pos c15] at H;have LMc15:=Aside0.mk c15;clear c15;obtain⟨y117,hy117⟩:∃y_:List Int,y_=(x3_3++[(ji14)%256]):=⟨_,rfl⟩
             replace H:(aircheckref02_extended.l2 k3 a0 y117 (wrap64 (x5_3 - 1)))=some r:=by first |(rw[hy117];with_reducible exact H) |(have H2_:=(Option.bind_some _ _).symm.trans H;rw[hy117];with_reducible exact H2_) |(have H2_:=(Option.bind_some _ _).symm.trans H;with_reducible exact H2_) |with_reducible exact H |(rw[hy117];exact H) |exact H
             have Ny117:=Aside0.mk hy117;clear hy117;have H':=Aside0.mk H;clear H
             go_wp2_with (first |((with_reducible refine gate_builtin (b:=.append) (xs:= #[.tmp 32,.tmp 40]) rfl ?_);at_builtin;refine Kd.R_append (Kd.int .u8) (w0:=w) w.heap.size rfl (.tmp 32) (.tmp 40) 48 5 (.int .u8 0) 1 rfl Tryd.underlying48 info5 rfl (by decide) (by omega) u3 x3_3 ((ji14)%256) [.int .u8 ((ji14)%256)] (fun _=>True) (fun _=>False) rfl rfl ?aP (fun _ hk=>hk.elim) ?aF ?aO ?aB ?aS ?aL ?_;(case aP=>exact rfl);(case aB=>exact (by repeat (first |(with_reducible first |exact HB.out |apply below_alloc |apply pw_below_drewN |apply below_drew1) |exact HB.out)));(case aF=>exact (fun _ _=>trivial));(case aO=>exact (by (with_reducible repeat (first |apply Kd.R_alloc |apply Kd.R_drewN |apply Kd.R_drew));exact HO_3.out));(case aS=>exact (below_size (by repeat (first |(with_reducible first |exact HB.out |apply below_alloc |apply pw_below_drewN |apply below_drew1) |exact HB.out))));(case aL=>have:=LMc15.out;omega);intro v118 w16 ho hb hg hat;rw[<-Ny117.out] at ho;have n0_:=Aside0.mk (hb);have n1_:=Aside0.mk (ho);clear HB;clear HO_3;have HB:=n0_;have HO119:=n1_;clear n0_ n1_;clear ho hb hg hat))
             go_roundg k3
             case measure=>have:=HK1.out;have:=HK2.out;have:=HK3.out;omega
             case rel=>exact⟨(y117),(wrap64 (x5_3 - 1)),(by first |rfl |(simp;done) |(simp[*];done)),H',⟨by have:=HK1.out;have:=HK2.out;have:=HK3.out;omega⟩,⟨by (with_reducible repeat (first |apply Kd.R_alloc |apply Kd.R_drewN |apply Kd.R_drew));exact HO119.out⟩,⟨by repeat (first |(with_reducible first |exact HB.out |apply below_alloc |apply pw_below_drewN |apply below_drew1) |exact HB.out)⟩⟩
            ·rw[if_neg c15] at H;exact absurd H (by simp)
           ·rw[if_neg c13] at H;exact absurd H (by simp)
          ·rw[if_neg c11] at H;have c11b0:decide (0<=x5_3)=false:=decide_eq_false c11;clear c11;obtain rfl:=Option.some.inj H
           go_wp2
           go_ret
           exact⟨_,by first |rfl |(simp[errW_none,errW_some]<;>rfl) |(simp[*,errW_none,errW_some]<;>rfl),by (with_reducible repeat (first |apply Kd.R_alloc |apply Kd.R_drewN |apply Kd.R_drew));exact HO_3.out,by repeat (first |(with_reducible first |exact HB.out |apply below_alloc |apply pw_below_drewN |apply below_drew1) |exact HB.out)⟩
       ·rw[if_neg c9] at H;have c9b0:(((x3_2.length:Int)%64)==56)=false:=beq_eq_false_iff_ne.mpr c9;have c9b1:(((x3_2.length:Int)%64) !=56)=true:=bne_iff_ne.mpr c9
        by_cases c17:x3_2.length<140737488355328
        ·rw[if_pos c17] at H;have LMc17:=Aside0.mk c17;clear c17;obtain⟨y114,hy114⟩:∃y_:List Int,y_=(x3_2++[0]):=⟨_,rfl⟩
         replace H:(aircheckref02_extended.l1 k2 a0 y114)=some r:=by first |(rw[hy114];with_reducible exact H) |(have H2_:=(Option.bind_some _ _).symm.trans H;rw[hy114];with_reducible exact H2_) |(have H2_:=(Option.bind_some _ _).symm.trans H;with_reducible exact H2_) |with_reducible exact H |(rw[hy114];exact H) |exact H
         have Ny114:=Aside0.mk hy114;clear hy114;have H':=Aside0.mk H;clear H;obtain⟨Ao18,co18,eo18⟩:=Kd.R_slice HO_3.out;subst eo18
         go_wp2_with (first |((with_reducible refine gate_builtin (b:=.append) (xs:= #[.tmp 25,.tmp 26]) rfl ?_);at_builtin;refine Kd.R_append (Kd.int .u8) (w0:=w) w.heap.size rfl (.tmp 25) (.tmp 26) 48 5 (.int .u8 0) 1 rfl Tryd.underlying48 info5 rfl (by decide) (by omega) (.slice Ao18 x3_2.length co18) x3_2 0 [.int .u8 0] (fun _=>True) (fun _=>False) rfl rfl ?aP (fun _ hk=>hk.elim) ?aF ?aO ?aB ?aS ?aL ?_;(case aP=>exact rfl);(case aB=>exact (by repeat (first |(with_reducible first |exact HB.out |apply below_alloc |apply pw_below_drewN |apply below_drew1) |exact HB.out)));(case aF=>exact (fun _ _=>trivial));(case aO=>exact (by (with_reducible repeat (first |apply Kd.R_alloc |apply Kd.R_drewN |apply Kd.R_drew));exact HO_3.out));(case aS=>exact (below_size (by repeat (first |(with_reducible first |exact HB.out |apply below_alloc |apply pw_below_drewN |apply below_drew1) |exact HB.out))));(case aL=>have:=LMc17.out;omega);intro v115 w19 ho hb hg hat;rw[<-Ny114.out] at ho;have n0_:=Aside0.mk (hb);have n1_:=Aside0.mk (ho);clear HB;clear HO_3;have HB:=n0_;have HO116:=n1_;clear n0_ n1_;clear ho hb hg hat))
         go_roundg k2
         case measure=>have:=HK1.out;have:=HK2.out;omega
         case rel=>exact⟨(y114),H',⟨by have:=HK1.out;have:=HK2.out;omega⟩,⟨by (with_reducible repeat (first |apply Kd.R_alloc |apply Kd.R_drewN |apply Kd.R_drew));exact HO116.out⟩,⟨by repeat (first |(with_reducible first |exact HB.out |apply below_alloc |apply pw_below_drewN |apply below_drew1) |exact HB.out)⟩⟩
        ·rw[if_neg c17] at H;exact absurd H (by simp)
    ·rw[if_neg c7] at H;exact absurd H (by simp)
end Go.Proofs.YtfdlmpicmkpabaaDoor.PB
end
section
namespace Go.Proofs.YtfdlmpicmkpabaaDoor.PB
open Go.Proofs.YtfdlmpicmkpabaaDoor.Ext
attribute [local go_sem] u32_signed u32_max
open Go.RowKit Go.Proofs.YtfdlmpicmkpabaaDoorW.PrintWords Go.Proofs.YtfdlmpicmkpabaaDoorW.PrintLast Go.Proofs.YtfdlmpicmkpabaaDoorW.PrintMore
attribute [local go_sem] max2_int min2_int max_two min_two max_three min_three max_four min_four -- for this text's walks alone
def aircheckref02_rotated.f(a0:Int)(a1:Int):Option (Int):=if 0<=a1 then (if 0<=(wrap64 (32 - a1)) then (some (Go.bits .or .u32 (shr .u32 a0 a1) (shl .u32 a0 (wrap64 (32 - a1))))) else (none)) else (none)
set_option maxHeartbeats 8000000 in
set_option maxRecDepth 100000 in
theorem aircheckref02_rotated.calls(a0:Int)(a1:Int)(r:Int)(w:World)(h:aircheckref02_rotated.f a0 a1=some r):
  Calls Tryd.prog 91 #[.int .u32 a0,.int .i64 a1] w fun e w'=>e=.returned (.int .u32 r)∧Drawn0 w w':=by
 have H:(if 0<=a1 then (if 0<=(wrap64 (32 - a1)) then (some (Go.bits .or .u32 (shr .u32 a0 a1) (shl .u32 a0 (wrap64 (32 - a1))))) else (none)) else (none))=some r:=h;clear h
 by_cases c3:0<=a1
 ·rw[if_pos c3] at H;have c3b0:=eq_true c3;have c3b1:decide (0<=a1)=true:=decide_eq_true c3;clear c3;obtain⟨ji4,hji4⟩:∃j_:Int,(shr .u32 a0 a1)=j_:=⟨_,rfl⟩
  replace H:(if 0<=(wrap64 (32 - a1)) then (some (Go.bits .or .u32 (ji4) (shl .u32 a0 (wrap64 (32 - a1))))) else (none))=some r:=by first |(rw[hji4] at H;exact H) |(simp only[hji4] at H ⊢;exact H)
  have hji4_:(a0 / 2 ^ min a1.toNat 32)=ji4:=hji4;have hji4z:a1<=32->(a0 / 2 ^ a1.toNat)=ji4:=shr_small hji4;obtain⟨ji5,hji5⟩:∃j_:Int,(wrap64 (32 - a1))=j_:=⟨_,rfl⟩
  replace H:(if 0<=(ji5) then (some (Go.bits .or .u32 (ji4) (shl .u32 a0 (ji5)))) else (none))=some r:=by first |(rw[hji5] at H;exact H) |(simp only[hji5] at H ⊢;exact H)
  have hji5w:(IntKind.i64.wrap (32 - a1))=ji5:=(i64_w _).trans hji5
  by_cases c6:0<=(ji5)
  ·rw[if_pos c6] at H;have c6b0:=eq_true c6;have c6b1:decide (0<=(ji5))=true:=decide_eq_true c6;clear c6;obtain⟨ji7,hji7⟩:∃j_:Int,(shl .u32 a0 (ji5))=j_:=⟨_,rfl⟩
   replace H:(some (Go.bits .or .u32 (ji4) (ji7)))=some r:=by first |(rw[hji7] at H;exact H) |(simp only[hji7] at H ⊢;exact H)
   have hji7_:(IntKind.u32.wrap (a0*2 ^ min (ji5).toNat 32))=ji7:=hji7;have hji7z:(ji5)<=32->(IntKind.u32.wrap (a0*2 ^ (ji5).toNat))=ji7:=shl_small hji7;obtain rfl:=Option.some.inj H
   go_enter Tryd.func91,Tryd.ntmps91
   go_wp2
   repeat (go_quiet (fail);try go_wp2)
   go_ret
   exact⟨by first |rfl |(simp;done) |(simp only[<-hji4, <-hji5, <-hji7]<;>(first |rfl |simp)) |(simp[*];done),by repeat (first |exact Drawn0.refl _ |apply Drawn0.step)⟩
  ·rw[if_neg c6] at H;exact absurd H (by simp)
 ·rw[if_neg c3] at H;exact absurd H (by simp)
end Go.Proofs.YtfdlmpicmkpabaaDoor.PB
end
section
namespace Go.Proofs.YtfdlmpicmkpabaaDoor.PB
open Go.Proofs.YtfdlmpicmkpabaaDoor.Ext
attribute [local go_sem] u32_signed u32_max
open Go.RowKit Go.Proofs.YtfdlmpicmkpabaaDoorW.PrintWords Go.Proofs.YtfdlmpicmkpabaaDoorW.PrintLast Go.Proofs.YtfdlmpicmkpabaaDoorW.PrintMore
attribute [local go_sem] max2_int min2_int max_two min_two max_three min_three max_four min_four -- for this text's walks alone
def aircheckref02_constants.f:Option (List Int):=some (([1116352408,1899447441,3049323471,3921009573,961987163,1508970993,2453635748,2870763221,3624381080,310598401,607225278,1426881987,1925078388,2162078206,2614888103,3248222580,3835390401,4022224774,264347078,604807628,770255983,1249150122,1555081692,1996064986,2554220882,2821834349,2952996808,3210313671,3336571891,3584528711,113926993,338241895,666307205,773529912,1294757372,1396182291,1695183700,1986661051,2177026350,2456956037,2730485921,2820302411,3259730800,3345764771,3516065817,3600352804,4094571909,275423344,430227734,506948616,659060556,883997877,958139571,1322822218,1537002063,1747873779,1955562222,2024104815,2227730452,2361852424,2428436474,2756734187,3204031479,3329325298]:List Int))
set_option maxHeartbeats 8000000 in
set_option maxRecDepth 100000 in
theorem aircheckref02_constants.calls(r:List Int)(w:World)(h:aircheckref02_constants.f=some r):
  Calls Tryd.prog 92 #[] w fun e w'=>∃v0_:Value,e=.returned (v0_)∧Kd.R (Kd.int .u32) 117 w' w.heap.size (fun _=>True) v0_ r∧Below w.heap.size w w':=by
 have HB:=Aside0.mk (Below.refl w.heap.size w);have H:(some (([1116352408,1899447441,3049323471,3921009573,961987163,1508970993,2453635748,2870763221,3624381080,310598401,607225278,1426881987,1925078388,2162078206,2614888103,3248222580,3835390401,4022224774,264347078,604807628,770255983,1249150122,1555081692,1996064986,2554220882,2821834349,2952996808,3210313671,3336571891,3584528711,113926993,338241895,666307205,773529912,1294757372,1396182291,1695183700,1986661051,2177026350,2456956037,2730485921,2820302411,3259730800,3345764771,3516065817,3600352804,4094571909,275423344,430227734,506948616,659060556,883997877,958139571,1322822218,1537002063,1747873779,1955562222,2024104815,2227730452,2361852424,2428436474,2756734187,3204031479,3329325298]:List Int)))=some r:=h;clear h;obtain⟨y120,hy120⟩:∃y_:List Int,y_=(([1116352408,1899447441,3049323471,3921009573,961987163,1508970993,2453635748,2870763221,3624381080,310598401,607225278,1426881987,1925078388,2162078206,2614888103,3248222580,3835390401,4022224774,264347078,604807628,770255983,1249150122,1555081692,1996064986,2554220882,2821834349,2952996808,3210313671,3336571891,3584528711,113926993,338241895,666307205,773529912,1294757372,1396182291,1695183700,1986661051,2177026350,2456956037,2730485921,2820302411,3259730800,3345764771,3516065817,3600352804,4094571909,275423344,430227734,506948616,659060556,883997877,958139571,1322822218,1537002063,1747873779,1955562222,2024104815,2227730452,2361852424,2428436474,2756734187,3204031479,3329325298]:List Int)):=⟨_,rfl⟩
 replace H:(some y120)=some r:=by first |(rw[hy120];with_reducible exact H) |(have H2_:=(Option.bind_some _ _).symm.trans H;rw[hy120];with_reducible exact H2_) |(have H2_:=(Option.bind_some _ _).symm.trans H;with_reducible exact H2_) |with_reducible exact H |(rw[hy120];exact H) |exact H
 have Ny120:=Aside0.mk hy120;clear hy120;obtain rfl:=Option.some.inj H
 go_enter Tryd.func92,Tryd.ntmps92
 go_wp2_with (first |((with_reducible refine gate_dst (N:=1) rfl ?_);refine Kd.R_lit (Kd.int .u32) _ 117 ?hg (N:=1) ?hd (xs:=([1116352408,1899447441,3049323471,3921009573,961987163,1508970993,2453635748,2870763221,3624381080,310598401,607225278,1426881987,1925078388,2162078206,2614888103,3248222580,3835390401,4022224774,264347078,604807628,770255983,1249150122,1555081692,1996064986,2554220882,2821834349,2952996808,3210313671,3336571891,3584528711,113926993,338241895,666307205,773529912,1294757372,1396182291,1695183700,1986661051,2177026350,2456956037,2730485921,2820302411,3259730800,3345764771,3516065817,3600352804,4094571909,275423344,430227734,506948616,659060556,883997877,958139571,1322822218,1537002063,1747873779,1955562222,2024104815,2227730452,2361852424,2428436474,2756734187,3204031479,3329325298]:List Int)) (inner:=[.int .u32 1116352408,.int .u32 1899447441,.int .u32 3049323471,.int .u32 3921009573,.int .u32 961987163,.int .u32 1508970993,.int .u32 2453635748,.int .u32 2870763221,.int .u32 3624381080,.int .u32 310598401,.int .u32 607225278,.int .u32 1426881987,.int .u32 1925078388,.int .u32 2162078206,.int .u32 2614888103,.int .u32 3248222580,.int .u32 3835390401,.int .u32 4022224774,.int .u32 264347078,.int .u32 604807628,.int .u32 770255983,.int .u32 1249150122,.int .u32 1555081692,.int .u32 1996064986,.int .u32 2554220882,.int .u32 2821834349,.int .u32 2952996808,.int .u32 3210313671,.int .u32 3336571891,.int .u32 3584528711,.int .u32 113926993,.int .u32 338241895,.int .u32 666307205,.int .u32 773529912,.int .u32 1294757372,.int .u32 1396182291,.int .u32 1695183700,.int .u32 1986661051,.int .u32 2177026350,.int .u32 2456956037,.int .u32 2730485921,.int .u32 2820302411,.int .u32 3259730800,.int .u32 3345764771,.int .u32 3516065817,.int .u32 3600352804,.int .u32 4094571909,.int .u32 275423344,.int .u32 430227734,.int .u32 506948616,.int .u32 659060556,.int .u32 883997877,.int .u32 958139571,.int .u32 1322822218,.int .u32 1537002063,.int .u32 1747873779,.int .u32 1955562222,.int .u32 2024104815,.int .u32 2227730452,.int .u32 2361852424,.int .u32 2428436474,.int .u32 2756734187,.int .u32 3204031479,.int .u32 3329325298]) (ok:=fun _=>True) (okp:=fun _=>True) ?hr ?hp (fun _ hk=>hk) trivial (Below.refl _ _) (Nat.le_refl _) (by simp) ?_;(case hd=>rfl);(case hg=>rfl);(case hr=>first |(go_simp;done) |(go_simp;rfl));(case hp=>exact (Reps.one (show Kd.M (Kd.int .u32) _ _ _ 1116352408 [.int .u32 1116352408] from rfl) (Reps.one (show Kd.M (Kd.int .u32) _ _ _ 1899447441 [.int .u32 1899447441] from rfl) (Reps.one (show Kd.M (Kd.int .u32) _ _ _ 3049323471 [.int .u32 3049323471] from rfl) (Reps.one (show Kd.M (Kd.int .u32) _ _ _ 3921009573 [.int .u32 3921009573] from rfl) (Reps.one (show Kd.M (Kd.int .u32) _ _ _ 961987163 [.int .u32 961987163] from rfl) (Reps.one (show Kd.M (Kd.int .u32) _ _ _ 1508970993 [.int .u32 1508970993] from rfl) (Reps.one (show Kd.M (Kd.int .u32) _ _ _ 2453635748 [.int .u32 2453635748] from rfl) (Reps.one (show Kd.M (Kd.int .u32) _ _ _ 2870763221 [.int .u32 2870763221] from rfl) (Reps.one (show Kd.M (Kd.int .u32) _ _ _ 3624381080 [.int .u32 3624381080] from rfl) (Reps.one (show Kd.M (Kd.int .u32) _ _ _ 310598401 [.int .u32 310598401] from rfl) (Reps.one (show Kd.M (Kd.int .u32) _ _ _ 607225278 [.int .u32 607225278] from rfl) (Reps.one (show Kd.M (Kd.int .u32) _ _ _ 1426881987 [.int .u32 1426881987] from rfl) (Reps.one (show Kd.M (Kd.int .u32) _ _ _ 1925078388 [.int .u32 1925078388] from rfl) (Reps.one (show Kd.M (Kd.int .u32) _ _ _ 2162078206 [.int .u32 2162078206] from rfl) (Reps.one (show Kd.M (Kd.int .u32) _ _ _ 2614888103 [.int .u32 2614888103] from rfl) (Reps.one (show Kd.M (Kd.int .u32) _ _ _ 3248222580 [.int .u32 3248222580] from rfl) (Reps.one (show Kd.M (Kd.int .u32) _ _ _ 3835390401 [.int .u32 3835390401] from rfl) (Reps.one (show Kd.M (Kd.int .u32) _ _ _ 4022224774 [.int .u32 4022224774] from rfl) (Reps.one (show Kd.M (Kd.int .u32) _ _ _ 264347078 [.int .u32 264347078] from rfl) (Reps.one (show Kd.M (Kd.int .u32) _ _ _ 604807628 [.int .u32 604807628] from rfl) (Reps.one (show Kd.M (Kd.int .u32) _ _ _ 770255983 [.int .u32 770255983] from rfl) (Reps.one (show Kd.M (Kd.int .u32) _ _ _ 1249150122 [.int .u32 1249150122] from rfl) (Reps.one (show Kd.M (Kd.int .u32) _ _ _ 1555081692 [.int .u32 1555081692] from rfl) (Reps.one (show Kd.M (Kd.int .u32) _ _ _ 1996064986 [.int .u32 1996064986] from rfl) (Reps.one (show Kd.M (Kd.int .u32) _ _ _ 2554220882 [.int .u32 2554220882] from rfl) (Reps.one (show Kd.M (Kd.int .u32) _ _ _ 2821834349 [.int .u32 2821834349] from rfl) (Reps.one (show Kd.M (Kd.int .u32) _ _ _ 2952996808 [.int .u32 2952996808] from rfl) (Reps.one (show Kd.M (Kd.int .u32) _ _ _ 3210313671 [.int .u32 3210313671] from rfl) (Reps.one (show Kd.M (Kd.int .u32) _ _ _ 3336571891 [.int .u32 3336571891] from rfl) (Reps.one (show Kd.M (Kd.int .u32) _ _ _ 3584528711 [.int .u32 3584528711] from rfl) (Reps.one (show Kd.M (Kd.int .u32) _ _ _ 113926993 [.int .u32 113926993] from rfl) (Reps.one (show Kd.M (Kd.int .u32) _ _ _ 338241895 [.int .u32 338241895] from rfl) (Reps.one (show Kd.M (Kd.int .u32) _ _ _ 666307205 [.int .u32 666307205] from rfl) (Reps.one (show Kd.M (Kd.int .u32) _ _ _ 773529912 [.int .u32 773529912] from rfl) (Reps.one (show Kd.M (Kd.int .u32) _ _ _ 1294757372 [.int .u32 1294757372] from rfl) (Reps.one (show Kd.M (Kd.int .u32) _ _ _ 1396182291 [.int .u32 1396182291] from rfl) (Reps.one (show Kd.M (Kd.int .u32) _ _ _ 1695183700 [.int .u32 1695183700] from rfl) (Reps.one (show Kd.M (Kd.int .u32) _ _ _ 1986661051 [.int .u32 1986661051] from rfl) (Reps.one (show Kd.M (Kd.int .u32) _ _ _ 2177026350 [.int .u32 2177026350] from rfl) (Reps.one (show Kd.M (Kd.int .u32) _ _ _ 2456956037 [.int .u32 2456956037] from rfl) (Reps.one (show Kd.M (Kd.int .u32) _ _ _ 2730485921 [.int .u32 2730485921] from rfl) (Reps.one (show Kd.M (Kd.int .u32) _ _ _ 2820302411 [.int .u32 2820302411] from rfl) (Reps.one (show Kd.M (Kd.int .u32) _ _ _ 3259730800 [.int .u32 3259730800] from rfl) (Reps.one (show Kd.M (Kd.int .u32) _ _ _ 3345764771 [.int .u32 3345764771] from rfl) (Reps.one (show Kd.M (Kd.int .u32) _ _ _ 3516065817 [.int .u32 3516065817] from rfl) (Reps.one (show Kd.M (Kd.int .u32) _ _ _ 3600352804 [.int .u32 3600352804] from rfl) (Reps.one (show Kd.M (Kd.int .u32) _ _ _ 4094571909 [.int .u32 4094571909] from rfl) (Reps.one (show Kd.M (Kd.int .u32) _ _ _ 275423344 [.int .u32 275423344] from rfl) (Reps.one (show Kd.M (Kd.int .u32) _ _ _ 430227734 [.int .u32 430227734] from rfl) (Reps.one (show Kd.M (Kd.int .u32) _ _ _ 506948616 [.int .u32 506948616] from rfl) (Reps.one (show Kd.M (Kd.int .u32) _ _ _ 659060556 [.int .u32 659060556] from rfl) (Reps.one (show Kd.M (Kd.int .u32) _ _ _ 883997877 [.int .u32 883997877] from rfl) (Reps.one (show Kd.M (Kd.int .u32) _ _ _ 958139571 [.int .u32 958139571] from rfl) (Reps.one (show Kd.M (Kd.int .u32) _ _ _ 1322822218 [.int .u32 1322822218] from rfl) (Reps.one (show Kd.M (Kd.int .u32) _ _ _ 1537002063 [.int .u32 1537002063] from rfl) (Reps.one (show Kd.M (Kd.int .u32) _ _ _ 1747873779 [.int .u32 1747873779] from rfl) (Reps.one (show Kd.M (Kd.int .u32) _ _ _ 1955562222 [.int .u32 1955562222] from rfl) (Reps.one (show Kd.M (Kd.int .u32) _ _ _ 2024104815 [.int .u32 2024104815] from rfl) (Reps.one (show Kd.M (Kd.int .u32) _ _ _ 2227730452 [.int .u32 2227730452] from rfl) (Reps.one (show Kd.M (Kd.int .u32) _ _ _ 2361852424 [.int .u32 2361852424] from rfl) (Reps.one (show Kd.M (Kd.int .u32) _ _ _ 2428436474 [.int .u32 2428436474] from rfl) (Reps.one (show Kd.M (Kd.int .u32) _ _ _ 2756734187 [.int .u32 2756734187] from rfl) (Reps.one (show Kd.M (Kd.int .u32) _ _ _ 3204031479 [.int .u32 3204031479] from rfl) (Reps.one (show Kd.M (Kd.int .u32) _ _ _ 3329325298 [.int .u32 3329325298] from rfl) (Reps.none _ _))))))))))))))))))))))))))))))))))))))))))))))))))))))))))))))))));intro v121 w1 ho2 hb hg_ hnew_;clear hg_ hnew_;(first |rw[<-Ny120.out] at ho2 |(simp only[Int.reduceToNat] at ho2;rw[<-Ny120.out] at ho2));have n0_:=Aside0.mk (Kd.R_lower ho2 (below_size (by repeat (first |(with_reducible first |exact HB.out |apply below_alloc |apply pw_below_drewN |apply below_drew1) |exact HB.out))));have n1_:=Aside0.mk (below_step (by repeat (first |(with_reducible first |exact HB.out |apply below_alloc |apply pw_below_drewN |apply below_drew1) |exact HB.out)) hb);clear HB;have HO122:=n0_;have HB:=n1_;clear n0_ n1_;clear hb ho2))
 go_ret
 exact⟨_,by first |rfl |(simp[errW_none,errW_some]<;>rfl) |(simp[*,errW_none,errW_some]<;>rfl),by (with_reducible repeat (first |apply Kd.R_alloc |apply Kd.R_drewN |apply Kd.R_drew));exact HO122.out,by repeat (first |(with_reducible first |exact HB.out |apply below_alloc |apply pw_below_drewN |apply below_drew1) |exact HB.out)⟩
end Go.Proofs.YtfdlmpicmkpabaaDoor.PB
end
