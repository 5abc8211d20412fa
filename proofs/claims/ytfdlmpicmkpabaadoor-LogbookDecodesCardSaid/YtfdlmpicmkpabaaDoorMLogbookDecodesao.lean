import Derived.Test.YtfdlmpicmkpabaaDoorMLogbookDecodesag
import Derived.Test.YtfdlmpicmkpabaaDoorMLogbookDecodesam
import Derived.Test.YtfdlmpicmkpabaaDoorMLogbookDecodesan
import Derived.Test.YtfdlmpicmkpabaaDoorMLogbookDecodesac
import Derived.Lib.SmallJoins
import Derived.ProofKit
/-
  Texts of this claim, one behind the other: what they prove stands above each.
-/
set_option linter.unusedVariables false
set_option linter.unusedSimpArgs false
section
namespace Go.Proofs.YtfdlmpicmkpabaaDoor.PB
open Go.Proofs.YtfdlmpicmkpabaaDoor.Ext
attribute [local go_sem] u32_signed u32_max
open Go.RowKit Go.Proofs.YtfdlmpicmkpabaaDoorW.PrintWords Go.Proofs.YtfdlmpicmkpabaaDoorW.PrintLast Go.Proofs.YtfdlmpicmkpabaaDoorW.PrintMore
attribute [local go_sem] max2_int min2_int max_two min_two max_three min_three max_four min_four -- for this text's walks alone
mutual
def aircheckref02_Sum.l0:Nat->List Int->List Int->Int->Option (ByteArray)
 |0,_,_,_=>none
 |k+1,x3,x4,x5=>if x5<(x4.length:Int) then (if 0<=x5 then (if x5<=(wrap64 (x5+64)) then (if (wrap64 (x5+64))<=(x4.length:Int) then ((aircheckref02_block.f k x3 ((x4.take ((wrap64 (x5+64)):Int).toNat).drop (x5:Int).toNat)).bind fun t191=>(aircheckref02_Sum.l0 k t191 x4 (wrap64 (x5+64)))) else (none)) else (none)) else (none)) else (aircheckref02_Sum.l1 k x3 ([]:List Int) 0)
def aircheckref02_Sum.l1:Nat->List Int->List Int->Int->Option (ByteArray)
 |0,_,_,_=>none
 |k+1,x3,x6,x7=>if x7<8 then (if 0<=x7 then (if x7<(x3.length:Int) then ((some (([((rd x3 x7) / 16777216)%256,((rd x3 x7) / 65536)%256,((rd x3 x7) / 256)%256,(rd x3 x7)%256]:List Int):List Int)).bind fun y198=>(if x6.length+y198.length<140737488355328 then (aircheckref02_Sum.l1 k x3 (x6++y198) (wrap64 (x7+1))) else (none))) else (none)) else (none)) else (some (strOfNums x6))
end
def aircheckref02_Sum.f(k:Nat)(a0:ByteArray):Option (ByteArray):=(aircheckref02_extended.f k a0).bind fun t184=>(aircheckref02_Sum.l0 k (([1779033703,3144134277,1013904242,2773480762,1359893119,2600822924,528734635,1541459225]:List Int)) t184 0)
def aircheckref02_Sum.T11:Bool × List (List Nat × List Nat):=(true,[([],[]),([],[]),([],[]),([1,2],[1,2]),([3],[3]),([4],[4]),([5],[5]),([],[]),([],[]),([7,8],[7,8]),([9],[9]),([10],[10]),([11],[11]),([],[]),([],[]),([13,14],[13,14]),([15],[15]),([16],[16]),([17],[17]),([],[]),([],[]),([19,20],[19,20]),([21],[21]),([22],[22]),([6,12,18,23],[6,12,18,23]),([0,24],[0,24]),([25,25,0,1,2,3,4,5,6,7,8,9,10,11,12,13,14,15,16,17,18,19,20,21,22,23,24,25],[0,25])])
def aircheckref02_Sum.B11:List Nat:=[0,0,0,6,14,30,62,0,0,384,896,1920,3968,0,0,24576,57344,122880,253952,0,0,1572864,3670016,7864320,16777214,33554431,67108863]
theorem aircheckref02_Sum.tab11:rtab .any (opsOf Tryd.f46 11)=aircheckref02_Sum.T11:=by kernel_rfl
theorem aircheckref02_Sum.bits11:waitsOk aircheckref02_Sum.T11.2 aircheckref02_Sum.B11=true:=by kernel_rfl
set_option maxHeartbeats 8000000 in
set_option maxRecDepth 100000 in
theorem aircheckref02_Sum.calls(k:Nat)(a0:ByteArray)(r:ByteArray)(w:World)(h:aircheckref02_Sum.f k a0=some r):
  Calls Tryd.prog 46 #[.string a0] w fun e w'=>e=.returned (.string r)∧Below w.heap.size w w':=by
 have HB:=Aside0.mk (Below.refl w.heap.size w);have H:((aircheckref02_extended.f k a0).bind fun t184=>(aircheckref02_Sum.l0 k (([1779033703,3144134277,1013904242,2773480762,1359893119,2600822924,528734635,1541459225]:List Int)) t184 0))=some r:=h;clear h;obtain⟨y181,hy181⟩:∃y_:List Int,y_=(([1779033703,3144134277,1013904242,2773480762,1359893119,2600822924,528734635,1541459225]:List Int)):=⟨_,rfl⟩
 replace H:((aircheckref02_extended.f k a0).bind fun t184=>(aircheckref02_Sum.l0 k y181 t184 0))=some r:=by first |(rw[hy181];with_reducible exact H) |(have H2_:=(Option.bind_some _ _).symm.trans H;rw[hy181];with_reducible exact H2_) |(have H2_:=(Option.bind_some _ _).symm.trans H;with_reducible exact H2_) |with_reducible exact H |(rw[hy181];exact H) |exact H
 have Ny181:=Aside0.mk hy181;clear hy181;replace H:=Option.bind_eq_some_iff.mp H;obtain⟨t184,A20,H⟩:=H;replace H:(aircheckref02_Sum.l0 k y181 t184 0)=some r:=H;have A2:=Aside0.mk A20;clear A20;have H':=Aside0.mk H;clear H
 go_enter Tryd.func46,Tryd.ntmps46
 go_wp2_with (first |((with_reducible refine gate_dst (N:=8) rfl ?_);refine Kd.R_lit (Kd.int .u32) _ 117 ?hg (N:=8) ?hd (xs:=([1779033703,3144134277,1013904242,2773480762,1359893119,2600822924,528734635,1541459225]:List Int)) (inner:=[.int .u32 1779033703,.int .u32 3144134277,.int .u32 1013904242,.int .u32 2773480762,.int .u32 1359893119,.int .u32 2600822924,.int .u32 528734635,.int .u32 1541459225]) (ok:=fun _=>True) (okp:=fun _=>True) ?hr ?hp (fun _ hk=>hk) trivial (Below.refl _ _) (Nat.le_refl _) (by simp) ?_;(case hd=>rfl);(case hg=>rfl);(case hr=>first |(go_simp;done) |(go_simp;rfl));(case hp=>exact (Reps.one (show Kd.M (Kd.int .u32) _ _ _ 1779033703 [.int .u32 1779033703] from rfl) (Reps.one (show Kd.M (Kd.int .u32) _ _ _ 3144134277 [.int .u32 3144134277] from rfl) (Reps.one (show Kd.M (Kd.int .u32) _ _ _ 1013904242 [.int .u32 1013904242] from rfl) (Reps.one (show Kd.M (Kd.int .u32) _ _ _ 2773480762 [.int .u32 2773480762] from rfl) (Reps.one (show Kd.M (Kd.int .u32) _ _ _ 1359893119 [.int .u32 1359893119] from rfl) (Reps.one (show Kd.M (Kd.int .u32) _ _ _ 2600822924 [.int .u32 2600822924] from rfl) (Reps.one (show Kd.M (Kd.int .u32) _ _ _ 528734635 [.int .u32 528734635] from rfl) (Reps.one (show Kd.M (Kd.int .u32) _ _ _ 1541459225 [.int .u32 1541459225] from rfl) (Reps.none _ _))))))))));intro v182 w3 ho4 hb hg_ hnew_;clear hg_ hnew_;(first |rw[<-Ny181.out] at ho4 |(simp only[Int.reduceToNat] at ho4;rw[<-Ny181.out] at ho4));have n0_:=Aside0.mk (Kd.R_lower ho4 (below_size (by repeat (first |(with_reducible first |exact HB.out |apply below_alloc |apply pw_below_drewN |apply below_drew1) |exact HB.out))));have n1_:=Aside0.mk (below_step (by repeat (first |(with_reducible first |exact HB.out |apply below_alloc |apply pw_below_drewN |apply below_drew1) |exact HB.out)) hb);clear HB;have HO183:=n0_;have HB:=n1_;clear n0_ n1_;clear hb ho4) |((with_reducible refine gate_callee (f:=75) rfl ?_);refine goesL_ (some 10) rfl rfl Tryd.func75 (by kernel_rfl) rfl #[.string a0] rfl (by (try simp only[List.map_toArray,List.map_cons,List.map_nil]);first |done |rfl |(simp only[List.length_drop,List.length_take];rfl)) ?_;(with_reducible refine (aircheckref02_extended.calls k a0 t184 _ A2.out).mono ?_);rintro e w5 ⟨v185,rfl,ho0,hb⟩;refine⟨_,rfl,?_⟩;have n0_:=Aside0.mk (Kd.R_below (by (with_reducible repeat (first |apply Kd.R_alloc |apply Kd.R_drewN |apply Kd.R_drew));exact HO183.out) hb);have n1_:=Aside0.mk (Kd.R_lower ho0 (below_size (by repeat (first |(with_reducible first |exact HB.out |apply below_alloc |apply pw_below_drewN |apply below_drew1) |exact HB.out))));have n2_:=Aside0.mk (below_step (by repeat (first |(with_reducible first |exact HB.out |apply below_alloc |apply pw_below_drewN |apply below_drew1) |exact HB.out)) hb);clear HO183;clear HB;have HO183:=n0_;have HO186:=n1_;have HB:=n2_;clear n0_ n1_ n2_;(try clear hb);(try clear hb2);(try clear hk);(try clear hi);(try clear ho0)))
 go_loopg [3,5] k (fun kq v3 v5 w'=>∃(x3_1:List Int) (x5_1:Int),v5=.int .i64 x5_1∧Aside0 (aircheckref02_Sum.l0 kq x3_1 t184 x5_1=some r)∧Aside0 (kq<=k)∧Aside0 (Kd.R (Kd.int .u32) 117 w' w.heap.size (fun _=>True) v3 x3_1)∧Aside0 (Kd.R (Kd.int .u8) 5 w' w.heap.size (fun _=>True) v185 t184)∧Aside0 (Below w.heap.size w w'))
 case atStart=>exact⟨(y181),(0),(by first |rfl |(simp;done) |(simp[*];done)),H',⟨Nat.le_refl _⟩,⟨by (with_reducible repeat (first |apply Kd.R_alloc |apply Kd.R_drewN |apply Kd.R_drew));exact HO183.out⟩,⟨by (with_reducible repeat (first |apply Kd.R_alloc |apply Kd.R_drewN |apply Kd.R_drew));exact HO186.out⟩,⟨by repeat (first |(with_reducible first |exact HB.out |apply below_alloc |apply pw_below_drewN |apply below_drew1) |exact HB.out)⟩⟩
 case round=>
  clear H'
  (try clear p2);(try clear c4)
  obtain⟨x3_1,x5_1,rfl,HA,HK1,HO_3,HO_4,HB⟩:=hrel
  cases gk with
  |zero=>exact absurd HA.out (by simp[aircheckref02_Sum.l0])
  |succ k1=>
   have H:=HA.out;clear HA;simp only[aircheckref02_Sum.l0] at H
   by_cases c6:x5_1<(t184.length:Int)
   ·rw[if_pos c6] at H;have c6b0:decide (x5_1<(t184.length:Int))=true:=decide_eq_true c6;clear c6
    by_cases c7:0<=x5_1
    ·rw[if_pos c7] at H;have c7b0:=eq_true c7;have c7b1:decide (0<=x5_1)=true:=decide_eq_true c7;clear c7
     by_cases c8:x5_1<=(wrap64 (x5_1+64))
     ·rw[if_pos c8] at H;have c8b0:=eq_true c8;have c8b1:decide (x5_1<=(wrap64 (x5_1+64)))=true:=decide_eq_true c8
      by_cases c9:(wrap64 (x5_1+64))<=(t184.length:Int)
      ·rw[if_pos c9] at H;have c9b0:=eq_true c9;have c9b1:decide ((wrap64 (x5_1+64))<=(t184.length:Int))=true:=decide_eq_true c9;obtain⟨y187,hy187⟩:∃y_:List Int,y_=((t184.take ((wrap64 (x5_1+64)):Int).toNat).drop (x5_1:Int).toNat):=⟨_,rfl⟩
       replace H:((aircheckref02_block.f k1 x3_1 y187).bind fun t191=>(aircheckref02_Sum.l0 k1 t191 t184 (wrap64 (x5_1+64))))=some r:=by first |(rw[hy187];with_reducible exact H) |(have H2_:=(Option.bind_some _ _).symm.trans H;rw[hy187];with_reducible exact H2_) |(have H2_:=(Option.bind_some _ _).symm.trans H;with_reducible exact H2_) |with_reducible exact H |(rw[hy187];exact H) |exact H
       have Ny187:=Aside0.mk hy187;clear hy187;replace H:=Option.bind_eq_some_iff.mp H;obtain⟨t191,A100,H⟩:=H;replace H:(aircheckref02_Sum.l0 k1 t191 t184 (wrap64 (x5_1+64)))=some r:=H;have A10:=Aside0.mk A100;clear A100;have H':=Aside0.mk H;clear H;obtain⟨Ao11,co11,eo11⟩:=Kd.R_slice HO_4.out;subst eo11;have q12:((wrap64 (x5_1+64)):Int)<=((t184.length:Int):Int):=of_decide_eq_true (by first |(with_reducible assumption) |assumption);obtain⟨i012,hi012,_,hsz12,_⟩:=info_parts info5;have hroom12:t184.length<=co11:=(Kd.R_reads' HO_4.out).2.1;have hC12:Kd.C (Kd.int .u8) _ Ao11 t184.length t184:=(Kd.R_reads' HO_4.out).2.2;have ql12:(x5_1:Int)<=((wrap64 (x5_1+64)):Int):=of_decide_eq_true (by first |(with_reducible assumption) |assumption);have q012:(0:Int)<=(x5_1:Int):=of_decide_eq_true (by first |(with_reducible assumption) |assumption);have hcut12:=cut_mid (P:=Tryd.prog) 48 5 .i64 .i64 Tryd.underlying48 hi012 1 hsz12 Ao11 t184.length co11 x5_1 (wrap64 (x5_1+64)) q012 ql12 q12 hroom12;have hr12:=Kd.C_mid (lo:=(x5_1:Int).toNat) (hi:=((wrap64 (x5_1+64)):Int).toNat) (c:=co11) hC12 (by omega) (by omega) hroom12;obtain⟨A12,hA12⟩:∃A1,A1=(if co11=(x5_1:Int).toNat then Ao11 else (Ao11:Option Addr).map (·.add ((x5_1:Int).toNat*1))):=⟨_,rfl⟩
       obtain⟨c12,hc12⟩:∃c1,c1=co11 - (x5_1:Int).toNat:=⟨_,rfl⟩
       have hy12:y187.length=((wrap64 (x5_1+64)):Int).toNat - (x5_1:Int).toNat:=(by rw[Ny187.out,List.length_drop,List.length_take]<;>omega);rw[show ((t184).take ((wrap64 (x5_1+64)):Int).toNat).drop (x5_1:Int).toNat=y187 from Ny187.out.symm] at hr12;replace hr12:Kd.C (Kd.int .u8) _ A12 y187.length y187:=(by rw[hA12];exact hr12);rw[<-hy12, <-hA12, <-hc12] at hcut12;have HR190:=Aside0.mk hr12;have HC190:=Aside0.mk (show y187.length<=c12 from by rw[hy12,hc12];exact Nat.sub_le_sub_right (Nat.le_trans (by omega) hroom12) _);clear hr12 hC12 hroom12 hi012 hsz12 hc12;have KY12:=Aside0.mk hy12;have KA12:=Aside0.mk hA12;clear hy12 hA12;have KL12:=Aside0.mk (show ((wrap64 (x5_1+64)):Int).toNat<=t184.length from by omega);have KM12:=Aside0.mk (show (x5_1:Int).toNat<=((wrap64 (x5_1+64)):Int).toNat from by omega);replace q12:=eq_true q12;obtain⟨Ao13,co13,eo13⟩:=Kd.R_slice HO_3.out;subst eo13
       go_wp2_with (first |((with_reducible refine gate_callee (f:=76) rfl ?_);refine goesL_ (some 23) rfl rfl Tryd.func76 (by kernel_rfl) rfl #[.slice Ao13 x3_1.length co13,.slice A12 y187.length c12] rfl (by (try simp only[List.map_toArray,List.map_cons,List.map_nil]);first |done |rfl |(simp only[List.length_drop,List.length_take];rfl)) ?_;(with_reducible refine (aircheckref02_block.calls k1 _ _ x3_1 _ _ y187 t191 _ ?side1 ?side2 ?side3 ?side4 A10.out).mono ?_);(case side1=>repeat (first |exact (Kd.R_reads' HO_3.out).2.2 |(with_reducible refine Kd.C_alloc ?_ _) |(with_reducible refine Kd.C_drewN ?_ _) |(with_reducible refine Kd.C_drew ?_)));(case side2=>exact (Kd.R_reads' HO_3.out).2.1);(case side3=>repeat (first |exact (by repeat (first |(with_reducible exact HR190.out) |(with_reducible refine Kd.C_alloc ?_ _) |(with_reducible refine Kd.C_drewN ?_ _) |(with_reducible refine Kd.C_drew ?_) |exact HR190.out)) |(with_reducible refine Kd.C_alloc ?_ _) |(with_reducible refine Kd.C_drewN ?_ _) |(with_reducible refine Kd.C_drew ?_)));(case side4=>exact HC190.out);rintro e w14 ⟨v192,rfl,ho0,hb⟩;refine⟨_,rfl,?_⟩;have n0_:=Aside0.mk (Kd.R_elder' (by (with_reducible repeat (first |apply Kd.R_alloc |apply Kd.R_drewN |apply Kd.R_drew));exact HO_3.out) (Kd.R_base ho0) hb);have n1_:=Aside0.mk (Kd.R_below (by (with_reducible repeat (first |apply Kd.R_alloc |apply Kd.R_drewN |apply Kd.R_drew));exact HO_4.out) hb);have n2_:=Aside0.mk (Kd.R_lower (Kd.R_new' ho0 (Kd.R_lt (by (with_reducible repeat (first |apply Kd.R_alloc |apply Kd.R_drewN |apply Kd.R_drew));exact HO_3.out))) (below_size (by repeat (first |(with_reducible first |exact HB.out |apply below_alloc |apply pw_below_drewN |apply below_drew1) |exact HB.out))));have n3_:=Aside0.mk (Kd.C_below (by repeat (first |(with_reducible exact HR190.out) |(with_reducible refine Kd.C_alloc ?_ _) |(with_reducible refine Kd.C_drewN ?_ _) |(with_reducible refine Kd.C_drew ?_) |exact HR190.out)) hb);have n4_:=Aside0.mk (below_step (by repeat (first |(with_reducible first |exact HB.out |apply below_alloc |apply pw_below_drewN |apply below_drew1) |exact HB.out)) hb);clear HO_3;clear HO_4;clear HR190;clear HB;have HO_3:=n0_;have HO_4:=n1_;have HO193:=n2_;have HR190:=n3_;have HB:=n4_;clear n0_ n1_ n2_ n3_ n4_;(try clear hb);(try clear hb2);(try clear hk);(try clear hi);(try clear ho0)))
       go_roundg k1
       case measure=>have:=HK1.out;omega
       case rel=>exact⟨(t191),(wrap64 (x5_1+64)),(by first |rfl |(simp;done) |(simp[*];done)),H',⟨by have:=HK1.out;omega⟩,⟨by (with_reducible repeat (first |apply Kd.R_alloc |apply Kd.R_drewN |apply Kd.R_drew));exact Kd.R_mono HO193.out (fun _ hk=>trivial)⟩,⟨by (with_reducible repeat (first |apply Kd.R_alloc |apply Kd.R_drewN |apply Kd.R_drew));exact HO_4.out⟩,⟨by repeat (first |(with_reducible first |exact HB.out |apply below_alloc |apply pw_below_drewN |apply below_drew1) |exact HB.out)⟩⟩
      ·rw[if_neg c9] at H;exact absurd H (by simp)
     ·rw[if_neg c8] at H;exact absurd H (by simp)
    ·rw[if_neg c7] at H;exact absurd H (by simp)
   ·rw[if_neg c6] at H;have c6b0:decide (x5_1<(t184.length:Int))=false:=decide_eq_false c6;clear c6;have H':=Aside0.mk H;clear H;obtain⟨Ao15,co15,eo15⟩:=Kd.R_slice HO_4.out;subst eo15
    go_wp2
    go_loopg [6,7] k1 (fun kq v6 v7 w'=>∃(x6_2:List Int) (x7_2:Int),v7=.int .i64 x7_2∧Aside0 (aircheckref02_Sum.l1 kq x3_1 x6_2 x7_2=some r)∧Aside0 (kq<=k1)∧Aside0 (Kd.R (Kd.int .u32) 117 w' w.heap.size (fun _=>True) u3 x3_1)∧Aside0 (Kd.R (Kd.int .u8) 5 w' w.heap.size (fun _=>True) v6 x6_2)∧Aside0 (Below w.heap.size w w'))
    case atStart=>exact⟨(([]:List Int)),(0),(by first |rfl |(simp;done) |(simp[*];done)),H',⟨Nat.le_refl _⟩,⟨by (with_reducible repeat (first |apply Kd.R_alloc |apply Kd.R_drewN |apply Kd.R_drew));exact HO_3.out⟩,⟨by first |exact Kd.R_nil _ _ _ _ _ |exact Kd.N_nil _ _ _ _ _ |exact Kd.V_nil _ _ _ _ _ |exact Kd.Q_nil _ _ _ _ _ |exact Kd.S_nil _ _ _ _ _⟩,⟨by repeat (first |(with_reducible first |exact HB.out |apply below_alloc |apply pw_below_drewN |apply below_drew1) |exact HB.out)⟩⟩
    case round=>
     clear H'
     (try clear c1);(try clear q1);(try clear p2);(try clear c4);(try clear c6);(try clear c6b0);(try clear p6);(try clear c7);(try clear c7b0);(try clear c7b1);(try clear c8);(try clear c8b0);(try clear c8b1);(try clear c9);(try clear c9b0);(try clear c9b1);(try clear c12);(try clear q12);(try clear p2);(try clear q012);(try clear q12)
     obtain⟨x6_2,x7_2,rfl,HA,HK2,HO_3,HO_6,HB⟩:=hrel
     cases gk with
     |zero=>exact absurd HA.out (by simp[aircheckref02_Sum.l1])
     |succ k2=>
      have H:=HA.out;clear HA;simp only[aircheckref02_Sum.l1] at H
      by_cases c16:x7_2<8
      ·rw[if_pos c16] at H;have c16b0:decide (x7_2<8)=true:=decide_eq_true c16;clear c16
       by_cases c17:0<=x7_2
       ·rw[if_pos c17] at H;have c17b0:decide (0<=x7_2)=true:=decide_eq_true c17;clear c17
        by_cases c18:x7_2<(x3_1.length:Int)
        ·rw[if_pos c18] at H;have c18b0:decide (x7_2<(x3_1.length:Int))=true:=decide_eq_true c18;clear c18;obtain⟨y198,hy198⟩:∃y_:List Int,y_=(([((rd x3_1 x7_2) / 16777216)%256,((rd x3_1 x7_2) / 65536)%256,((rd x3_1 x7_2) / 256)%256,(rd x3_1 x7_2)%256]:List Int)):=⟨_,rfl⟩
         replace H:(if x6_2.length+y198.length<140737488355328 then (aircheckref02_Sum.l1 k2 x3_1 (x6_2++y198) (wrap64 (x7_2+1))) else (none))=some r:=by first |(rw[hy198];with_reducible exact H) |(have H2_:=(Option.bind_some _ _).symm.trans H;rw[hy198];with_reducible exact H2_) |(have H2_:=(Option.bind_some _ _).symm.trans H;with_reducible exact H2_) |with_reducible exact H |(rw[hy198];exact H) |exact H
         have Ny198:=Aside0.mk hy198;clear hy198
         by_cases c19:x6_2.length+y198.length<140737488355328
         ·rw[if_pos c19] at H;have LMc19:=Aside0.mk c19;clear c19;obtain⟨y201,hy201⟩:∃y_:List Int,y_=(x6_2++y198):=⟨_,rfl⟩
          replace H:(aircheckref02_Sum.l1 k2 x3_1 y201 (wrap64 (x7_2+1)))=some r:=by first |(rw[hy201];with_reducible exact H) |(have H2_:=(Option.bind_some _ _).symm.trans H;rw[hy201];with_reducible exact H2_) |(have H2_:=(Option.bind_some _ _).symm.trans H;with_reducible exact H2_) |with_reducible exact H |(rw[hy201];exact H) |exact H
          have Ny201:=Aside0.mk hy201;clear hy201;have H':=Aside0.mk H;clear H
          try go_wp2
          have n0_:=Aside0.mk (Kd.R_drew HO_3.out);have n1_:=Aside0.mk (Kd.R_drew HO_6.out);have n2_:=Aside0.mk (below_drew1 HB.out);clear HO_3;clear HO_6;clear HB;have HO_3:=n0_;have HO_6:=n1_;have HB:=n2_;clear n0_ n1_ n2_;obtain⟨Ao21,co21,eo21⟩:=Kd.R_slice HO_3.out
          (first |subst eo21 |(injection eo21 with f1_ f2_ f3_;have f4_:=f1_.symm;have f5_:=f3_.symm;clear f1_ f2_ f3_;subst f4_;subst f5_))
          have p194:0<=(x7_2:Int):=of_decide_eq_true (by first |(with_reducible assumption) |assumption);have q194:x7_2<(x3_1.length:Int):=of_decide_eq_true (by first |(with_reducible assumption) |assumption);obtain⟨ad194,e194,hx194_0⟩:=Kd.at_int (Kd.R_reads' HO_3.out).2.2 x7_2 p194 q194
          cases e194
          replace p194:=eq_true p194;replace q194:=eq_true q194;have p195:0<=(x7_2:Int):=of_decide_eq_true (by first |(with_reducible assumption) |assumption);have q195:x7_2<(x3_1.length:Int):=of_decide_eq_true (by first |(with_reducible assumption) |assumption);obtain⟨ad195,e195,hx195_0⟩:=Kd.at_int (Kd.R_reads' HO_3.out).2.2 x7_2 p195 q195;obtain rfl:ad194=ad195:=(by injection e195);replace p195:=eq_true p195;replace q195:=eq_true q195;have p196:0<=(x7_2:Int):=of_decide_eq_true (by first |(with_reducible assumption) |assumption);have q196:x7_2<(x3_1.length:Int):=of_decide_eq_true (by first |(with_reducible assumption) |assumption);obtain⟨ad196,e196,hx196_0⟩:=Kd.at_int (Kd.R_reads' HO_3.out).2.2 x7_2 p196 q196;obtain rfl:ad194=ad196:=(by injection e196);replace p196:=eq_true p196;replace q196:=eq_true q196;have p197:0<=(x7_2:Int):=of_decide_eq_true (by first |(with_reducible assumption) |assumption);have q197:x7_2<(x3_1.length:Int):=of_decide_eq_true (by first |(with_reducible assumption) |assumption);obtain⟨ad197,e197,hx197_0⟩:=Kd.at_int (Kd.R_reads' HO_3.out).2.2 x7_2 p197 q197;obtain rfl:ad194=ad197:=(by injection e197);replace p197:=eq_true p197;replace q197:=eq_true q197;refine start_ (n:=27) (S:=fun w'=>w'.cell? (ad194.add (x7_2).toNat)=some (.int .u32 (rd x3_1 x7_2))∧w'.cell? (ad194.add (x7_2).toNat)=some (.int .u32 (rd x3_1 x7_2))∧w'.cell? (ad194.add (x7_2).toNat)=some (.int .u32 (rd x3_1 x7_2))∧w'.cell? (ad194.add (x7_2).toNat)=some (.int .u32 (rd x3_1 x7_2))) (ds:=[25]) #[false,false,false,false,false,false,false,false,false,false,false,false,false,false,false,false,false,false,false,false,false,false,false,false,false,false,false] (by kernel_rfl) rfl rfl ⟨hx194_0,hx195_0,hx196_0,hx197_0⟩ (fun hHeld=>?_);refine with_tabW aircheckref02_Sum.tab11 aircheckref02_Sum.bits11 (fun HT_ HW_=>?_);generalize wr.drew=w20 at HO_3 HO_6 HB hx194_0 hx195_0 hx196_0 hx197_0 hHeld ⊢;refine pure_ (i:=0) (N:=some 28) (v:=?_) (a':=?_) #[true,false,false,false,false,false,false,false,false,false,false,false,false,false,false,false,false,false,false,false,false,false,false,false,false,false,false] rfl rfl (any_of HT_.out (by kernel_rfl)) (fun _ _ _ h=>h) (Or.inl ⟨by rfl,?_⟩) ?_ ?_
          rotate_left
          ·intro w';go_simp
           with_reducible rfl
          rotate_left
          ·simp only[Act.put,List.setIfInBounds_toArray,List.set_cons_zero,List.set_cons_succ,i64_w,i32_w];rfl
          refine pure_ (i:=1) (N:=some 29) (v:=?_) (a':=?_) #[true,true,false,false,false,false,false,false,false,false,false,false,false,false,false,false,false,false,false,false,false,false,false,false,false,false,false] rfl rfl (any_of HT_.out (by kernel_rfl)) (fun _ _ _ h=>h) (Or.inl ⟨by rfl,?_⟩) ?_ ?_
          rotate_left
          ·intro w';go_simp
           with_reducible rfl
          rotate_left
          ·simp only[Act.put,List.setIfInBounds_toArray,List.set_cons_zero,List.set_cons_succ,i64_w,i32_w];rfl
          refine pure_ (i:=2) (N:=some 30) (v:=?_) (a':=?_) #[true,true,true,false,false,false,false,false,false,false,false,false,false,false,false,false,false,false,false,false,false,false,false,false,false,false,false] rfl rfl (any_of HT_.out (by kernel_rfl)) (fun _ _ _ h=>h) (Or.inl ⟨by rfl,?_⟩) ?_ ?_
          rotate_left
          ·intro w';go_simp
           with_reducible rfl
          rotate_left
          ·simp only[Act.put,List.setIfInBounds_toArray,List.set_cons_zero,List.set_cons_succ,i64_w,i32_w];rfl
          refine pure_ (i:=3) (N:=some 31) (v:=?_) (a':=?_) #[true,true,true,true,false,false,false,false,false,false,false,false,false,false,false,false,false,false,false,false,false,false,false,false,false,false,false] rfl rfl (any_of HT_.out (by kernel_rfl)) (fun _ _ _ h=>h) (Or.inl ⟨by rfl,?_⟩) ?_ ?_
          rotate_left
          ·intro w';go_simp
           with_reducible rfl
          rotate_left
          ·simp only[Act.put,List.setIfInBounds_toArray,List.set_cons_zero,List.set_cons_succ,i64_w,i32_w];rfl
          refine pure_ (i:=7) (N:=some 35) (v:=?_) (a':=?_) #[true,true,true,true,false,false,false,true,false,false,false,false,false,false,false,false,false,false,false,false,false,false,false,false,false,false,false] rfl rfl (any_of HT_.out (by kernel_rfl)) (fun _ _ _ h=>h) (Or.inl ⟨by rfl,?_⟩) ?_ ?_
          rotate_left
          ·intro w';go_simp
           with_reducible rfl
          rotate_left
          ·simp only[Act.put,List.setIfInBounds_toArray,List.set_cons_zero,List.set_cons_succ,i64_w,i32_w];rfl
          refine pure_ (i:=8) (N:=some 36) (v:=?_) (a':=?_) #[true,true,true,true,false,false,false,true,true,false,false,false,false,false,false,false,false,false,false,false,false,false,false,false,false,false,false] rfl rfl (any_of HT_.out (by kernel_rfl)) (fun _ _ _ h=>h) (Or.inl ⟨by rfl,?_⟩) ?_ ?_
          rotate_left
          ·intro w';go_simp
           with_reducible rfl
          rotate_left
          ·simp only[Act.put,List.setIfInBounds_toArray,List.set_cons_zero,List.set_cons_succ,i64_w,i32_w];rfl
          refine pure_ (i:=9) (N:=some 37) (v:=?_) (a':=?_) #[true,true,true,true,false,false,false,true,true,true,false,false,false,false,false,false,false,false,false,false,false,false,false,false,false,false,false] rfl rfl (any_of HT_.out (by kernel_rfl)) (fun _ _ _ h=>h) (Or.inl ⟨by rfl,?_⟩) ?_ ?_
          rotate_left
          ·intro w';go_simp
           with_reducible rfl
          rotate_left
          ·simp only[Act.put,List.setIfInBounds_toArray,List.set_cons_zero,List.set_cons_succ,i64_w,i32_w];rfl
          refine pure_ (i:=13) (N:=some 41) (v:=?_) (a':=?_) #[true,true,true,true,false,false,false,true,true,true,false,false,false,true,false,false,false,false,false,false,false,false,false,false,false,false,false] rfl rfl (any_of HT_.out (by kernel_rfl)) (fun _ _ _ h=>h) (Or.inl ⟨by rfl,?_⟩) ?_ ?_
          rotate_left
          ·intro w';go_simp
           with_reducible rfl
          rotate_left
          ·simp only[Act.put,List.setIfInBounds_toArray,List.set_cons_zero,List.set_cons_succ,i64_w,i32_w];rfl
          refine pure_ (i:=14) (N:=some 42) (v:=?_) (a':=?_) #[true,true,true,true,false,false,false,true,true,true,false,false,false,true,true,false,false,false,false,false,false,false,false,false,false,false,false] rfl rfl (any_of HT_.out (by kernel_rfl)) (fun _ _ _ h=>h) (Or.inl ⟨by rfl,?_⟩) ?_ ?_
          rotate_left
          ·intro w';go_simp
           with_reducible rfl
          rotate_left
          ·simp only[Act.put,List.setIfInBounds_toArray,List.set_cons_zero,List.set_cons_succ,i64_w,i32_w];rfl
          refine pure_ (i:=15) (N:=some 43) (v:=?_) (a':=?_) #[true,true,true,true,false,false,false,true,true,true,false,false,false,true,true,true,false,false,false,false,false,false,false,false,false,false,false] rfl rfl (any_of HT_.out (by kernel_rfl)) (fun _ _ _ h=>h) (Or.inl ⟨by rfl,?_⟩) ?_ ?_
          rotate_left
          ·intro w';go_simp
           with_reducible rfl
          rotate_left
          ·simp only[Act.put,List.setIfInBounds_toArray,List.set_cons_zero,List.set_cons_succ,i64_w,i32_w];rfl
          refine pure_ (i:=19) (N:=some 47) (v:=?_) (a':=?_) #[true,true,true,true,false,false,false,true,true,true,false,false,false,true,true,true,false,false,false,true,false,false,false,false,false,false,false] rfl rfl (any_of HT_.out (by kernel_rfl)) (fun _ _ _ h=>h) (Or.inl ⟨by rfl,?_⟩) ?_ ?_
          rotate_left
          ·intro w';go_simp
           with_reducible rfl
          rotate_left
          ·simp only[Act.put,List.setIfInBounds_toArray,List.set_cons_zero,List.set_cons_succ,i64_w,i32_w];rfl
          refine pure_ (i:=20) (N:=some 48) (v:=?_) (a':=?_) #[true,true,true,true,false,false,false,true,true,true,false,false,false,true,true,true,false,false,false,true,true,false,false,false,false,false,false] rfl rfl (any_of HT_.out (by kernel_rfl)) (fun _ _ _ h=>h) (Or.inl ⟨by rfl,?_⟩) ?_ ?_
          rotate_left
          ·intro w';go_simp
           with_reducible rfl
          rotate_left
          ·simp only[Act.put,List.setIfInBounds_toArray,List.set_cons_zero,List.set_cons_succ,i64_w,i32_w];rfl
          refine pure_ (i:=21) (N:=some 49) (v:=?_) (a':=?_) #[true,true,true,true,false,false,false,true,true,true,false,false,false,true,true,true,false,false,false,true,true,true,false,false,false,false,false] rfl rfl (any_of HT_.out (by kernel_rfl)) (fun _ _ _ h=>h) (Or.inl ⟨by rfl,?_⟩) ?_ ?_
          rotate_left
          ·intro w';go_simp
           with_reducible rfl
          rotate_left
          ·simp only[Act.put,List.setIfInBounds_toArray,List.set_cons_zero,List.set_cons_succ,i64_w,i32_w];rfl
          refine take_ (i:=4) (N:=some 32) (v:=?_) (a':=?_) #[true,true,true,true,true,false,false,true,true,true,false,false,false,true,true,true,false,false,false,true,true,true,false,false,false,false,false] rfl rfl (take_ofW HT_.out HW_.out (by kernel_rfl)) (fun _ _ _ h=>h) (Or.inl ⟨by rfl,?_⟩) hHeld ?_ ?_
          rotate_left
          ·rintro w' ⟨s0,s1,s2,s3⟩
           go_simp
           with_reducible rfl
          rotate_left
          ·simp only[Act.put,List.setIfInBounds_toArray,List.set_cons_zero,List.set_cons_succ,i64_w,i32_w];rfl
          refine pure_ (i:=5) (N:=some 33) (v:=?_) (a':=?_) #[true,true,true,true,true,true,false,true,true,true,false,false,false,true,true,true,false,false,false,true,true,true,false,false,false,false,false] rfl rfl (any_of HT_.out (by kernel_rfl)) (fun _ _ _ h=>h) (Or.inl ⟨by rfl,?_⟩) ?_ ?_
          rotate_left
          ·intro w';go_simp
           with_reducible rfl
          rotate_left
          ·simp only[Act.put,List.setIfInBounds_toArray,List.set_cons_zero,List.set_cons_succ,i64_w,i32_w];rfl
          refine pure_ (i:=6) (N:=some 34) (v:=?_) (a':=?_) #[true,true,true,true,true,true,true,true,true,true,false,false,false,true,true,true,false,false,false,true,true,true,false,false,false,false,false] rfl rfl (any_of HT_.out (by kernel_rfl)) (fun _ _ _ h=>h) (Or.inl ⟨by rfl,?_⟩) ?_ ?_
          rotate_left
          ·intro w';go_simp
           with_reducible rfl
          rotate_left
          ·simp only[Act.put,List.setIfInBounds_toArray,List.set_cons_zero,List.set_cons_succ,i64_w,i32_w];rfl
          refine take_ (i:=10) (N:=some 38) (v:=?_) (a':=?_) #[true,true,true,true,true,true,true,true,true,true,true,false,false,true,true,true,false,false,false,true,true,true,false,false,false,false,false] rfl rfl (take_ofW HT_.out HW_.out (by kernel_rfl)) (fun _ _ _ h=>h) (Or.inl ⟨by rfl,?_⟩) hHeld ?_ ?_
          rotate_left
          ·rintro w' ⟨s0,s1,s2,s3⟩
           go_simp
           with_reducible rfl
          rotate_left
          ·simp only[Act.put,List.setIfInBounds_toArray,List.set_cons_zero,List.set_cons_succ,i64_w,i32_w];rfl
          refine pure_ (i:=11) (N:=some 39) (v:=?_) (a':=?_) #[true,true,true,true,true,true,true,true,true,true,true,true,false,true,true,true,false,false,false,true,true,true,false,false,false,false,false] rfl rfl (any_of HT_.out (by kernel_rfl)) (fun _ _ _ h=>h) (Or.inl ⟨by rfl,?_⟩) ?_ ?_
          rotate_left
          ·intro w';go_simp
           with_reducible rfl
          rotate_left
          ·simp only[Act.put,List.setIfInBounds_toArray,List.set_cons_zero,List.set_cons_succ,i64_w,i32_w];rfl
          refine pure_ (i:=12) (N:=some 40) (v:=?_) (a':=?_) #[true,true,true,true,true,true,true,true,true,true,true,true,true,true,true,true,false,false,false,true,true,true,false,false,false,false,false] rfl rfl (any_of HT_.out (by kernel_rfl)) (fun _ _ _ h=>h) (Or.inl ⟨by rfl,?_⟩) ?_ ?_
          rotate_left
          ·intro w';go_simp
           with_reducible rfl
          rotate_left
          ·simp only[Act.put,List.setIfInBounds_toArray,List.set_cons_zero,List.set_cons_succ,i64_w,i32_w];rfl
          refine take_ (i:=16) (N:=some 44) (v:=?_) (a':=?_) #[true,true,true,true,true,true,true,true,true,true,true,true,true,true,true,true,true,false,false,true,true,true,false,false,false,false,false] rfl rfl (take_ofW HT_.out HW_.out (by kernel_rfl)) (fun _ _ _ h=>h) (Or.inl ⟨by rfl,?_⟩) hHeld ?_ ?_
          rotate_left
          ·rintro w' ⟨s0,s1,s2,s3⟩
           go_simp
           with_reducible rfl
          rotate_left
          ·simp only[Act.put,List.setIfInBounds_toArray,List.set_cons_zero,List.set_cons_succ,i64_w,i32_w];rfl
          refine pure_ (i:=17) (N:=some 45) (v:=?_) (a':=?_) #[true,true,true,true,true,true,true,true,true,true,true,true,true,true,true,true,true,true,false,true,true,true,false,false,false,false,false] rfl rfl (any_of HT_.out (by kernel_rfl)) (fun _ _ _ h=>h) (Or.inl ⟨by rfl,?_⟩) ?_ ?_
          rotate_left
          ·intro w';go_simp
           with_reducible rfl
          rotate_left
          ·simp only[Act.put,List.setIfInBounds_toArray,List.set_cons_zero,List.set_cons_succ,i64_w,i32_w];rfl
          refine pure_ (i:=18) (N:=some 46) (v:=?_) (a':=?_) #[true,true,true,true,true,true,true,true,true,true,true,true,true,true,true,true,true,true,true,true,true,true,false,false,false,false,false] rfl rfl (any_of HT_.out (by kernel_rfl)) (fun _ _ _ h=>h) (Or.inl ⟨by rfl,?_⟩) ?_ ?_
          rotate_left
          ·intro w';go_simp
           with_reducible rfl
          rotate_left
          ·simp only[Act.put,List.setIfInBounds_toArray,List.set_cons_zero,List.set_cons_succ,i64_w,i32_w];rfl
          refine take_ (i:=22) (N:=some 50) (v:=?_) (a':=?_) #[true,true,true,true,true,true,true,true,true,true,true,true,true,true,true,true,true,true,true,true,true,true,true,false,false,false,false] rfl rfl (take_ofW HT_.out HW_.out (by kernel_rfl)) (fun _ _ _ h=>h) (Or.inl ⟨by rfl,?_⟩) hHeld ?_ ?_
          rotate_left
          ·rintro w' ⟨s0,s1,s2,s3⟩
           go_simp
           with_reducible rfl
          rotate_left
          ·simp only[Act.put,List.setIfInBounds_toArray,List.set_cons_zero,List.set_cons_succ,i64_w,i32_w];rfl
          refine pure_ (i:=23) (N:=some 51) (v:=?_) (a':=?_) #[true,true,true,true,true,true,true,true,true,true,true,true,true,true,true,true,true,true,true,true,true,true,true,true,false,false,false] rfl rfl (any_of HT_.out (by kernel_rfl)) (fun _ _ _ h=>h) (Or.inl ⟨by rfl,?_⟩) ?_ ?_
          rotate_left
          ·intro w';go_simp
           with_reducible rfl
          rotate_left
          ·simp only[Act.put,List.setIfInBounds_toArray,List.set_cons_zero,List.set_cons_succ,i64_w,i32_w];rfl
          refine one_ (i:=24) (N:=some 52) #[true,true,true,true,true,true,true,true,true,true,true,true,true,true,true,true,true,true,true,true,true,true,true,true,true,false,false] rfl rfl (one_of HT_.out (by kernel_rfl)) (by decide) (fun K hK=>?_);refine Kd.R_lit_step (Kd.int .u8) _ 5 ?hg (N:=52) ?hd (xs:=([((rd x3_1 x7_2) / 16777216)%256,((rd x3_1 x7_2) / 65536)%256,((rd x3_1 x7_2) / 256)%256,(rd x3_1 x7_2)%256]:List Int)) (inner:=[.int .u8 (((rd x3_1 x7_2) / 16777216)%256),.int .u8 (((rd x3_1 x7_2) / 65536)%256),.int .u8 (((rd x3_1 x7_2) / 256)%256),.int .u8 ((rd x3_1 x7_2)%256)]) (ok:=fun _=>True) (okp:=fun _=>True) ?hr ?hp (fun _ hk=>hk) trivial (Below.refl _ _) (Nat.le_refl _) (by simp) ?_;(case hd=>rfl);(case hg=>rfl);(case hr=>first |(go_simp;done) |(go_simp;rfl));(case hp=>exact (Reps.one (show Kd.M (Kd.int .u8) _ _ _ (((rd x3_1 x7_2) / 16777216)%256) [.int .u8 (((rd x3_1 x7_2) / 16777216)%256)] from rfl) (Reps.one (show Kd.M (Kd.int .u8) _ _ _ (((rd x3_1 x7_2) / 65536)%256) [.int .u8 (((rd x3_1 x7_2) / 65536)%256)] from rfl) (Reps.one (show Kd.M (Kd.int .u8) _ _ _ (((rd x3_1 x7_2) / 256)%256) [.int .u8 (((rd x3_1 x7_2) / 256)%256)] from rfl) (Reps.one (show Kd.M (Kd.int .u8) _ _ _ ((rd x3_1 x7_2)%256) [.int .u8 ((rd x3_1 x7_2)%256)] from rfl) (Reps.none _ _))))))
          intro v199 w22 ho23 hb hg_ hnew_;have HS0_:=(hb.cell (World.block_lt_of_cell? _ _ (hHeld.1))).trans (hHeld.1);have HS1_:=(hb.cell (World.block_lt_of_cell? _ _ (hHeld.2.1))).trans (hHeld.2.1);have HS2_:=(hb.cell (World.block_lt_of_cell? _ _ (hHeld.2.2.1))).trans (hHeld.2.2.1);have HS3_:=(hb.cell (World.block_lt_of_cell? _ _ (hHeld.2.2.2))).trans (hHeld.2.2.2);clear hg_ hnew_
          (first |rw[<-Ny198.out] at ho23 |(simp only[Int.reduceToNat] at ho23;rw[<-Ny198.out] at ho23))
          have n0_:=Aside0.mk (Kd.R_below (by (with_reducible repeat (first |apply Kd.R_alloc |apply Kd.R_drewN |apply Kd.R_drew));exact HO_3.out) hb);have n1_:=Aside0.mk (Kd.R_elder' (by (with_reducible repeat (first |apply Kd.R_alloc |apply Kd.R_drewN |apply Kd.R_drew));exact HO_6.out) (Kd.R_base ho23) hb);have n2_:=Aside0.mk (Kd.R_lower (Kd.R_new' ho23 (Kd.R_lt (by (with_reducible repeat (first |apply Kd.R_alloc |apply Kd.R_drewN |apply Kd.R_drew));exact HO_6.out))) (below_size (by repeat (first |(with_reducible first |exact HB.out |apply below_alloc |apply pw_below_drewN |apply below_drew1) |exact HB.out))));have n3_:=Aside0.mk (below_step (by repeat (first |(with_reducible first |exact HB.out |apply below_alloc |apply pw_below_drewN |apply below_drew1) |exact HB.out)) hb);clear HO_3;clear HO_6;clear HB;have HO_3:=n0_;have HO_6:=n1_;have HO200:=n2_;have HB:=n3_;clear n0_ n1_ n2_ n3_;clear hb ho23;obtain⟨Ao25,co25,eo25⟩:=Kd.R_slice HO200.out
          (first |subst eo25 |(injection eo25 with f1_ f2_ f3_;have f4_:=f1_.symm;have f5_:=f3_.symm;clear f1_ f2_ f3_;subst f4_;subst f5_))
          refine hK.out _ _ ⟨HS0_,HS1_,HS2_,HS3_⟩ (fun hHeld=>?_);clear hK K;refine norm_ (a':=?_) ?_ ?_
          rotate_left
          ·show Act.put _ (some 52) _=_
           simp only[Act.put,List.setIfInBounds_toArray,List.set_cons_zero,List.set_cons_succ,i64_w,i32_w];rfl
          refine last_ (i:=25) (N:=some 53) #[true,true,true,true,true,true,true,true,true,true,true,true,true,true,true,true,true,true,true,true,true,true,true,true,true,true,false] rfl rfl (one_of HT_.out (by kernel_rfl)) (by decide) (fun K hK=>?_);refine Kd.R_append_rows_step (Kd.int .u8) (w0:=w) w.heap.size (by rfl) (.tmp 28) (.tmp 52) 48 5 (.int .u8 0) 1 rfl Tryd.underlying48 info5 rfl (by decide) (by omega) u6 x6_2 y198 _ _ _ (fun k_=>some k_≠(.slice Ao25 y198.length co25:Value).ownBlock) (fun _=>False) rfl rfl ?aO ?aR (fun _ _ h=>h) (fun _ h=>h.elim) ?aF ?aB ?aS ?aL ?_
          (case aR=>repeat (first |exact (Kd.R_reads' HO200.out).2.2 |(with_reducible refine Kd.C_alloc ?_ _) |(with_reducible refine Kd.C_drewN ?_ _) |(with_reducible refine Kd.C_drew ?_)))
          (case aB=>exact (by repeat (first |(with_reducible first |exact HB.out |apply below_alloc |apply pw_below_drewN |apply below_drew1) |exact HB.out)))
          (case aF=>exact (fun k_ hk=>Kd.fresh' (Kd.R_lt (by (with_reducible repeat (first |apply Kd.R_alloc |apply Kd.R_drewN |apply Kd.R_drew));exact HO200.out)) k_ hk))
          (case aO=>exact (by (with_reducible repeat (first |apply Kd.R_alloc |apply Kd.R_drewN |apply Kd.R_drew));exact Kd.R_mono HO_6.out (fun _ hk=>hk.2)))
          (case aS=>exact (below_size (by repeat (first |(with_reducible first |exact HB.out |apply below_alloc |apply pw_below_drewN |apply below_drew1) |exact HB.out))))
          (case aL=>have:=LMc19.out;omega)
          intro v202 w24 ho hb hg hat;rw[<-Ny201.out] at ho;have n0_:=Aside0.mk (Kd.R_over' (by (with_reducible repeat (first |apply Kd.R_alloc |apply Kd.R_drewN |apply Kd.R_drew));exact HO_3.out) (Kd.R_typed (by (with_reducible repeat (first |apply Kd.R_alloc |apply Kd.R_drewN |apply Kd.R_drew));exact HO_6.out)) (by decide) hg);have n1_:=Aside0.mk (Kd.R_after (ok:=(fun _=>True)) (by (with_reducible repeat (first |apply Kd.R_alloc |apply Kd.R_drewN |apply Kd.R_drew));exact HO200.out) hg hat);have n2_:=Aside0.mk (hb);have n3_:=Aside0.mk (ho);clear HO_3;clear HO200;clear HB;clear HO_6;have HO_3:=n0_;have HO200:=n1_;have HB:=n2_;have HO203:=n3_;clear n0_ n1_ n2_ n3_;clear ho hb hg hat;refine hK.out _ _ ?_;clear hK K;refine norm_ (a':=?_) ?_ ?_
          rotate_left
          ·show Act.put _ (some 53) _=_
           simp only[Act.put,List.setIfInBounds_toArray,List.set_cons_zero,List.set_cons_succ,i64_w,i32_w];rfl
          refine pure_ (i:=26) (N:=some 6) (v:=?_) (a':=?_) #[true,true,true,true,true,true,true,true,true,true,true,true,true,true,true,true,true,true,true,true,true,true,true,true,true,true,true] rfl rfl (any_of HT_.out (by kernel_rfl)) (fun _ _ _ h=>h) (Or.inl ⟨by rfl,?_⟩) ?_ ?_
          rotate_left
          ·intro w';go_simp
           with_reducible rfl
          rotate_left
          ·simp only[Act.put,List.setIfInBounds_toArray,List.set_cons_zero,List.set_cons_succ,i64_w,i32_w];rfl
          refine done_ (done_of HT_.out (by kernel_rfl)) ?_
          try go_wp2
          go_roundg k2
          case measure=>have:=HK1.out;have:=HK2.out;omega
          case rel=>exact⟨(y201),(wrap64 (x7_2+1)),(by first |rfl |(simp;done) |(simp[*];done)),H',⟨by have:=HK1.out;have:=HK2.out;omega⟩,⟨by (with_reducible repeat (first |apply Kd.R_alloc |apply Kd.R_drewN |apply Kd.R_drew));exact HO_3.out⟩,⟨by (with_reducible repeat (first |apply Kd.R_alloc |apply Kd.R_drewN |apply Kd.R_drew));exact Kd.R_mono HO203.out (fun _ hk=>trivial)⟩,⟨by repeat (first |(with_reducible first |exact HB.out |apply below_alloc |apply pw_below_drewN |apply below_drew1) |exact HB.out)⟩⟩
         ·rw[if_neg c19] at H;exact absurd H (by simp)
        ·rw[if_neg c18] at H;exact absurd H (by simp)
       ·rw[if_neg c17] at H;exact absurd H (by simp)
      ·rw[if_neg c16] at H;have c16b0:decide (x7_2<8)=false:=decide_eq_false c16;clear c16;obtain rfl:=Option.some.inj H;have hcv26:=own_string (P:=Tryd.prog) Tryd.underlying48 Tryd.underlying5 Tryd.underlying9 (Kd.own_of_R HO_6.out)
       go_wp2
       go_ret
       exact⟨by first |rfl |(simp[errW_none,errW_some]<;>rfl) |(simp[*,errW_none,errW_some]<;>rfl),by repeat (first |(with_reducible first |exact HB.out |apply below_alloc |apply pw_below_drewN |apply below_drew1) |exact HB.out)⟩
end Go.Proofs.YtfdlmpicmkpabaaDoor.PB
end
section
namespace Go.Proofs.YtfdlmpicmkpabaaDoor.DigSpec
set_option maxRecDepth 100000
open Go.RowKit Go.Proofs.YtfdlmpicmkpabaaDoorW.PrintWords Go.Proofs.YtfdlmpicmkpabaaDoorW.PrintLast Go.Proofs.YtfdlmpicmkpabaaDoorW.PrintMore Go.Proofs.YtfdlmpicmkpabaaDoor.Ext
theorem w64{x:Int}(h1: -9223372036854775808<=x)(h2:x<9223372036854775808):wrap64 x=x:=by unfold wrap64;omega
theorem wf64{a:Int}(h:(Lit.int .i64 a).wf=true): -9223372036854775808<=a∧a<=9223372036854775807:=by
 simpa [Lit.wf,IntKind.min,IntKind.max,IntKind.signed,IntKind.bits] using h
end Go.Proofs.YtfdlmpicmkpabaaDoor.DigSpec
end
section
namespace Go.Proofs.YtfdlmpicmkpabaaDoor.PB
open Go.Proofs.YtfdlmpicmkpabaaDoor.Ext
attribute [local go_sem] u32_signed u32_max
open Go.RowKit Go.Proofs.YtfdlmpicmkpabaaDoorW.PrintWords Go.Proofs.YtfdlmpicmkpabaaDoorW.PrintLast Go.Proofs.YtfdlmpicmkpabaaDoorW.PrintMore
attribute [local go_sem] max2_int min2_int max_two min_two max_three min_three max_four min_four -- for this text's walks alone
def aircheckref01_zigzag.f(a0:Int):Option (Int):=if a0<0 then (some (IntKind.u64.wrap ((IntKind.u64.wrap ((IntKind.u64.wrap (wrap64 (-a0)))*2)) - 1))) else (some (IntKind.u64.wrap ((IntKind.u64.wrap (a0))*2)))
set_option maxHeartbeats 8000000 in
set_option maxRecDepth 100000 in
theorem aircheckref01_zigzag.calls(a0:Int)(r:Int)(w:World)(h:aircheckref01_zigzag.f a0=some r):
  Calls Tryd.prog 74 #[.int .i64 a0] w fun e w'=>e=.returned (.int .u64 r)∧Drawn0 w w':=by
 have H:(if a0<0 then (some (IntKind.u64.wrap ((IntKind.u64.wrap ((IntKind.u64.wrap (wrap64 (-a0)))*2)) - 1))) else (some (IntKind.u64.wrap ((IntKind.u64.wrap (a0))*2))))=some r:=h;clear h
 by_cases c2:a0<0
 ·rw[if_pos c2] at H;have c2b0:decide (a0<0)=true:=decide_eq_true c2;clear c2;obtain rfl:=Option.some.inj H
  go_enter Tryd.func74,Tryd.ntmps74
  go_wp2
  go_ret
  exact⟨by first |rfl |(simp;done) |(simp[*];done),by repeat (first |exact Drawn0.refl _ |apply Drawn0.step)⟩
 ·rw[if_neg c2] at H;have c2b0:decide (a0<0)=false:=decide_eq_false c2;clear c2;obtain rfl:=Option.some.inj H
  go_enter Tryd.func74,Tryd.ntmps74
  go_wp2
  go_ret
  exact⟨by first |rfl |(simp;done) |(simp[*];done),by repeat (first |exact Drawn0.refl _ |apply Drawn0.step)⟩
end Go.Proofs.YtfdlmpicmkpabaaDoor.PB
end
section
namespace Go.Proofs.YtfdlmpicmkpabaaDoor.PB
open Go.Proofs.YtfdlmpicmkpabaaDoor.Ext
attribute [local go_sem] u32_signed u32_max
open Go.RowKit Go.Proofs.YtfdlmpicmkpabaaDoorW.PrintWords Go.Proofs.YtfdlmpicmkpabaaDoorW.PrintLast Go.Proofs.YtfdlmpicmkpabaaDoorW.PrintMore
attribute [local go_sem] max2_int min2_int max_two min_two max_three min_three max_four min_four -- for this text's walks alone
mutual
def aircheckref01_PutInt.j0:Nat->Int->Bool->Option (ByteArray × Int)
 |0,_,_=>none
 |k+1,x0,x11=>if x11=true then (some ((⟨#[]⟩:ByteArray),10)) else ((aircheckref01_zigzag.f x0).bind fun t101=>(aircheckref01_PutInt.l0 k t101 ([]:List Int)))
def aircheckref01_PutInt.l0:Nat->Int->List Int->Option (ByteArray × Int)
 |0,_,_=>none
 |k+1,x4,x5=>if x4>=128 then (if x5.length<140737488355328 then (aircheckref01_PutInt.l0 k (IntKind.u64.wrap (Int.tdiv x4 128)) (x5++[(IntKind.u64.wrap ((Int.tmod x4 128)+128))%256])) else (none)) else (if x5.length<140737488355328 then (some (strOfNums (x5++[(x4)%256]),0)) else (none))
end
def aircheckref01_PutInt.f(k:Nat)(a0:Int):Option (ByteArray × Int):=if a0<(-4611686018427387903) then (aircheckref01_PutInt.j0 k a0 true) else (aircheckref01_PutInt.j0 k a0 (decide (a0>4611686018427387903)))
set_option maxHeartbeats 8000000 in
set_option maxRecDepth 100000 in
theorem aircheckref01_PutInt.calls(k:Nat)(a0:Int)(r1:ByteArray)(r2:Int)(w:World)(h:aircheckref01_PutInt.f k a0=some (r1,r2)):
  Calls Tryd.prog 45 #[.int .i64 a0] w fun e w'=>e=.returned (.tuple #[.string r1,.int .i64 r2])∧Below w.heap.size w w':=by
 have HB:=Aside0.mk (Below.refl w.heap.size w);have H:(if a0<(-4611686018427387903) then (aircheckref01_PutInt.j0 k a0 true) else (aircheckref01_PutInt.j0 k a0 (decide (a0>4611686018427387903))))=some (r1,r2):=h;clear h;have HC2:=Aside0.mk H;clear H
 go_enter Tryd.func45,Tryd.ntmps45
 go_upto_region 1 with (fail)
 go_cut [11] (fun v11 wc=>∃(kq:Nat) (x11_1:Bool),v11=.bool x11_1∧Aside0 (aircheckref01_PutInt.j0 kq a0 x11_1=some (r1,r2))∧Aside0 (kq<=k)∧Aside0 (Below w.heap.size w wc))
 case first=>
  have H:=HC2.out;clear HC2
  by_cases c3:a0<(-4611686018427387903)
  ·rw[if_pos c3] at H;have c3b0:decide (a0<(-4611686018427387903))=true:=decide_eq_true c3;clear c3
   (first |rw[c3b0] |(simp only[i64_w,i32_w];rw[c3b0]) |skip)
   have H':=Aside0.mk H;clear H
   go_wp2
   go_meet
   case rel=>exact⟨_,(true),(by first |rfl |(simp;done) |(simp[*];done)),H',⟨by first |omega |exact Nat.le_refl _⟩,⟨by repeat (first |(with_reducible first |exact HB.out |apply below_alloc |apply pw_below_drewN |apply below_drew1) |exact HB.out)⟩⟩
  ·rw[if_neg c3] at H;have c3b0:decide (a0<(-4611686018427387903))=false:=decide_eq_false c3;clear c3
   (first |rw[c3b0] |(simp only[i64_w,i32_w];rw[c3b0]) |skip)
   have H':=Aside0.mk H;clear H
   go_wp2
   go_meet
   case rel=>exact⟨_,(decide (a0>4611686018427387903)),(by first |rfl |(simp;done) |(simp[*];done)),H',⟨by first |omega |exact Nat.le_refl _⟩,⟨by repeat (first |(with_reducible first |exact HB.out |apply below_alloc |apply pw_below_drewN |apply below_drew1) |exact HB.out)⟩⟩
 case rest=>
  clear HC2
  (try clear p2);(try clear c3);(try clear c3b0)
  obtain⟨kq,x11_1,rfl,HA,HJ1,HB⟩:=hcut
  cases kq with
  |zero=>exact absurd HA.out (by simp[aircheckref01_PutInt.j0])
  |succ kj1=>
   have H:=HA.out;clear HA;simp only[aircheckref01_PutInt.j0] at H
   by_cases c4:x11_1=true
   ·subst c4;have H1:(some ((⟨#[]⟩:ByteArray),10))=some (r1,r2):=by rw[if_pos rfl] at H;exact H
    clear H;have H:=H1;clear H1;simp only[Option.some.injEq,Prod.mk.injEq] at H;obtain⟨rfl,rfl⟩:=H
    go_wp2
    go_ret2
    exact⟨by first |rfl |(simp[errW_none,errW_some]<;>rfl) |(simp[*,errW_none,errW_some]<;>rfl),by repeat (first |(with_reducible first |exact HB.out |apply below_alloc |apply pw_below_drewN |apply below_drew1) |exact HB.out)⟩
   ·replace c4:=Bool.eq_false_iff.mpr c4;subst c4;have H1:((aircheckref01_zigzag.f a0).bind fun t101=>(aircheckref01_PutInt.l0 kj1 t101 ([]:List Int)))=some (r1,r2):=by rw[if_neg (show ¬(false=true) by decide)] at H;exact H
    clear H;have H:=H1;clear H1;replace H:=Option.bind_eq_some_iff.mp H;obtain⟨t101,A50,H⟩:=H;replace H:(aircheckref01_PutInt.l0 kj1 t101 ([]:List Int))=some (r1,r2):=H;have A5:=Aside0.mk A50;clear A50;have H':=Aside0.mk H;clear H
    go_wp2_with (first |((with_reducible refine gate_callee (f:=74) rfl ?_);refine goesL_ (some 13) rfl rfl Tryd.func74 (by kernel_rfl) rfl #[.int .i64 a0] rfl (by (try simp only[List.map_toArray,List.map_cons,List.map_nil]);first |done |rfl |(simp only[List.length_drop,List.length_take];rfl)) ?_;(with_reducible refine (aircheckref01_zigzag.calls a0 t101 _ A5.out).mono ?_);rintro e w' ⟨rfl,⟨nd,rfl⟩⟩;refine⟨_,rfl,?_⟩))
    go_loopg [4,5] kj1 (fun kq v4 v5 w'=>∃(x4_2:Int) (x5_2:List Int),v4=.int .u64 x4_2∧Aside0 (aircheckref01_PutInt.l0 kq x4_2 x5_2=some (r1,r2))∧Aside0 (kq<=kj1)∧Aside0 (Kd.R (Kd.int .u8) 5 w' w.heap.size (fun _=>True) v5 x5_2)∧Aside0 (Below w.heap.size w w'))
    case atStart=>exact⟨(t101),(([]:List Int)),(by first |rfl |(simp;done) |(simp[*];done)),H',⟨Nat.le_refl _⟩,⟨by first |exact Kd.R_nil _ _ _ _ _ |exact Kd.N_nil _ _ _ _ _ |exact Kd.V_nil _ _ _ _ _ |exact Kd.Q_nil _ _ _ _ _ |exact Kd.S_nil _ _ _ _ _⟩,⟨by repeat (first |(with_reducible first |exact HB.out |apply below_alloc |apply pw_below_drewN |apply below_drew1) |exact HB.out)⟩⟩
    case round=>
     clear H'
     (try clear p2);(try clear c3);(try clear c3b0);(try clear c4);(try clear p2)
     obtain⟨x4_2,x5_2,rfl,HA,HK2,HO_5,HB⟩:=hrel
     cases gk with
     |zero=>exact absurd HA.out (by simp[aircheckref01_PutInt.l0])
     |succ k2=>
      have H:=HA.out;clear HA;simp only[aircheckref01_PutInt.l0] at H
      by_cases c6:x4_2>=128
      ·rw[if_pos c6] at H;have c6b0:decide (128<=x4_2)=true:=decide_eq_true c6;clear c6
       by_cases c7:x5_2.length<140737488355328
       ·rw[if_pos c7] at H;have LMc7:=Aside0.mk c7;clear c7;obtain⟨y102,hy102⟩:∃y_:List Int,y_=(x5_2++[(IntKind.u64.wrap ((Int.tmod x4_2 128)+128))%256]):=⟨_,rfl⟩
        replace H:(aircheckref01_PutInt.l0 k2 (IntKind.u64.wrap (Int.tdiv x4_2 128)) y102)=some (r1,r2):=by first |(rw[hy102];with_reducible exact H) |(have H2_:=(Option.bind_some _ _).symm.trans H;rw[hy102];with_reducible exact H2_) |(have H2_:=(Option.bind_some _ _).symm.trans H;with_reducible exact H2_) |with_reducible exact H |(rw[hy102];exact H) |exact H
        have Ny102:=Aside0.mk hy102;clear hy102;have H':=Aside0.mk H;clear H
        go_wp2_with (first |((with_reducible refine gate_builtin (b:=.append) (xs:= #[.tmp 16,.tmp 21]) rfl ?_);at_builtin;refine Kd.R_append (Kd.int .u8) (w0:=w) w.heap.size rfl (.tmp 16) (.tmp 21) 48 5 (.int .u8 0) 1 rfl Tryd.underlying48 info5 rfl (by decide) (by omega) u5 x5_2 ((IntKind.u64.wrap ((Int.tmod x4_2 128)+128))%256) [.int .u8 ((IntKind.u64.wrap ((Int.tmod x4_2 128)+128))%256)] (fun _=>True) (fun _=>False) rfl rfl ?aP (fun _ hk=>hk.elim) ?aF ?aO ?aB ?aS ?aL ?_;(case aP=>exact rfl);(case aB=>exact (by repeat (first |(with_reducible first |exact HB.out |apply below_alloc |apply pw_below_drewN |apply below_drew1) |exact HB.out)));(case aF=>exact (fun _ _=>trivial));(case aO=>exact (by (with_reducible repeat (first |apply Kd.R_alloc |apply Kd.R_drewN |apply Kd.R_drew));exact HO_5.out));(case aS=>exact (below_size (by repeat (first |(with_reducible first |exact HB.out |apply below_alloc |apply pw_below_drewN |apply below_drew1) |exact HB.out))));(case aL=>have:=LMc7.out;omega);intro v103 w8 ho hb hg hat;rw[<-Ny102.out] at ho;have n0_:=Aside0.mk (hb);have n1_:=Aside0.mk (ho);clear HB;clear HO_5;have HB:=n0_;have HO104:=n1_;clear n0_ n1_;clear ho hb hg hat))
        go_roundg k2
        case measure=>have:=HJ1.out;have:=HK2.out;omega
        case rel=>exact⟨(IntKind.u64.wrap (Int.tdiv x4_2 128)),(y102),(by first |rfl |(simp;done) |(simp[*];done)),H',⟨by have:=HJ1.out;have:=HK2.out;omega⟩,⟨by (with_reducible repeat (first |apply Kd.R_alloc |apply Kd.R_drewN |apply Kd.R_drew));exact HO104.out⟩,⟨by repeat (first |(with_reducible first |exact HB.out |apply below_alloc |apply pw_below_drewN |apply below_drew1) |exact HB.out)⟩⟩
       ·rw[if_neg c7] at H;exact absurd H (by simp)
      ·rw[if_neg c6] at H;have c6b0:decide (128<=x4_2)=false:=decide_eq_false c6;clear c6
       by_cases c9:x5_2.length<140737488355328
       ·rw[if_pos c9] at H;have LMc9:=Aside0.mk c9;clear c9;obtain⟨y105,hy105⟩:∃y_:List Int,y_=(x5_2++[(x4_2)%256]):=⟨_,rfl⟩
        replace H:(some (strOfNums y105,0))=some (r1,r2):=by first |(rw[hy105];with_reducible exact H) |(have H2_:=(Option.bind_some _ _).symm.trans H;rw[hy105];with_reducible exact H2_) |(have H2_:=(Option.bind_some _ _).symm.trans H;with_reducible exact H2_) |with_reducible exact H |(rw[hy105];exact H) |exact H
        have Ny105:=Aside0.mk hy105;clear hy105;simp only[Option.some.injEq,Prod.mk.injEq] at H;obtain⟨rfl,rfl⟩:=H
        go_wp2_with (first |((with_reducible refine gate_builtin (b:=.append) (xs:= #[.tmp 25,.tmp 28]) rfl ?_);at_builtin;refine Kd.R_append (Kd.int .u8) (w0:=w) w.heap.size rfl (.tmp 25) (.tmp 28) 48 5 (.int .u8 0) 1 rfl Tryd.underlying48 info5 rfl (by decide) (by omega) u5 x5_2 ((x4_2)%256) [.int .u8 ((x4_2)%256)] (fun _=>True) (fun _=>False) rfl rfl ?aP (fun _ hk=>hk.elim) ?aF ?aO ?aB ?aS ?aL ?_;(case aP=>exact rfl);(case aB=>exact (by repeat (first |(with_reducible first |exact HB.out |apply below_alloc |apply pw_below_drewN |apply below_drew1) |exact HB.out)));(case aF=>exact (fun _ _=>trivial));(case aO=>exact (by (with_reducible repeat (first |apply Kd.R_alloc |apply Kd.R_drewN |apply Kd.R_drew));exact HO_5.out));(case aS=>exact (below_size (by repeat (first |(with_reducible first |exact HB.out |apply below_alloc |apply pw_below_drewN |apply below_drew1) |exact HB.out))));(case aL=>have:=LMc9.out;omega);intro v106 w10 ho hb hg hat;rw[<-Ny105.out] at ho;have n0_:=Aside0.mk (hb);have n1_:=Aside0.mk (ho);clear HB;clear HO_5;have HB:=n0_;have HO107:=n1_;clear n0_ n1_;clear ho hb hg hat;have hcv11:=own_string (P:=Tryd.prog) Tryd.underlying48 Tryd.underlying5 Tryd.underlying9 (Kd.own_of_R HO107.out)))
        go_ret2
        exact⟨by first |rfl |(simp[errW_none,errW_some]<;>rfl) |(simp[*,errW_none,errW_some]<;>rfl),by repeat (first |(with_reducible first |exact HB.out |apply below_alloc |apply pw_below_drewN |apply below_drew1) |exact HB.out)⟩
       ·rw[if_neg c9] at H;exact absurd H (by simp)
end Go.Proofs.YtfdlmpicmkpabaaDoor.PB
end
section
namespace Go.Proofs.YtfdlmpicmkpabaaDoor.PB
open Go.Proofs.YtfdlmpicmkpabaaDoor.Ext
attribute [local go_sem] u32_signed u32_max
open Go.RowKit Go.Proofs.YtfdlmpicmkpabaaDoorW.PrintWords Go.Proofs.YtfdlmpicmkpabaaDoorW.PrintLast Go.Proofs.YtfdlmpicmkpabaaDoorW.PrintMore
attribute [local go_sem] max2_int min2_int max_two min_two max_three min_three max_four min_four -- for this text's walks alone
def aircheckref01_PutString.f(k:Nat)(a0:ByteArray):Option (ByteArray × Int):=if (a0.size:Int)>65536 then (some ((⟨#[]⟩:ByteArray),10)) else ((aircheckref01_PutInt.f k (a0.size:Int)).bind fun bt349=>(if bt349.1.size+a0.size<=9223372036854775807 then (some (bt349.1++a0,0)) else (none)))
end Go.Proofs.YtfdlmpicmkpabaaDoor.PB
end
section
namespace Go.Proofs.YtfdlmpicmkpabaaDoor.PB
open Go.Proofs.YtfdlmpicmkpabaaDoor.Ext
attribute [local go_sem] u32_signed u32_max
open Go.RowKit Go.Proofs.YtfdlmpicmkpabaaDoorW.PrintWords Go.Proofs.YtfdlmpicmkpabaaDoorW.PrintLast Go.Proofs.YtfdlmpicmkpabaaDoorW.PrintMore
attribute [local go_sem] max2_int min2_int max_two min_two max_three min_three max_four min_four -- for this text's walks alone
mutual
def aircheckref01_Int.j0:Nat->ByteArray->Int->Bool->Option (Int × Int × Int)
 |0,_,_,_=>none
 |k+1,x0,x1,x20=>if x20=true then (some (0,0,2)) else (aircheckref01_Int.l0 k x0 x1 0 0)
def aircheckref01_Int.l0:Nat->ByteArray->Int->Int->Int->Option (Int × Int × Int)
 |0,_,_,_,_=>none
 |k+1,x0,x1,x7,x8=>if x8<9 then (aircheckref01_Int.j2 k x0 x1 x7 x8 (decide ((wrap64 (x1+x8))<(x0.size:Int)))) else (aircheckref01_Int.j2 k x0 x1 x7 x8 false)
def aircheckref01_Int.j2:Nat->ByteArray->Int->Int->Int->Bool->Option (Int × Int × Int)
 |0,_,_,_,_,_=>none
 |k+1,x0,x1,x7,x8,x30=>if x30=true then (if 0<=(wrap64 (x1+x8)) then (if (wrap64 (x1+x8))<(x0.size:Int) then (if 0<=(wrap64 (7*x8)) then (if (IntKind.u64.wrap (bt x0 (wrap64 (x1+x8))))>=128 then (aircheckref01_Int.l0 k x0 x1 (IntKind.u64.wrap (x7+(shl .u64 (Int.tmod (IntKind.u64.wrap (bt x0 (wrap64 (x1+x8)))) 128) (wrap64 (7*x8))))) (wrap64 (x8+1))) else (if (Int.tmod (IntKind.u64.wrap (x7+(shl .u64 (Int.tmod (IntKind.u64.wrap (bt x0 (wrap64 (x1+x8)))) 128) (wrap64 (7*x8))))) 2)=1 then ((aircheckref01_PutInt.f k (wrap64 ((wrap64 (-(wrap64 (IntKind.u64.wrap (Int.tdiv (IntKind.u64.wrap (x7+(shl .u64 (Int.tmod (IntKind.u64.wrap (bt x0 (wrap64 (x1+x8)))) 128) (wrap64 (7*x8))))) 2))))) - 1))).bind fun bt499=>(if bt499.2=0 then (if 0<=x1 then (if x1<=(wrap64 ((wrap64 (x1+x8))+1)) then (if (wrap64 ((wrap64 (x1+x8))+1))<=(x0.size:Int) then (if bt499.1.toList=(x0.extract (x1:Int).toNat ((wrap64 ((wrap64 (x1+x8))+1)):Int).toNat).toList then (some (wrap64 ((wrap64 (-(wrap64 (IntKind.u64.wrap (Int.tdiv (IntKind.u64.wrap (x7+(shl .u64 (Int.tmod (IntKind.u64.wrap (bt x0 (wrap64 (x1+x8)))) 128) (wrap64 (7*x8))))) 2))))) - 1),wrap64 ((wrap64 (x1+x8))+1),0)) else (some (0,0,10))) else (none)) else (none)) else (none)) else (some (0,0,10)))) else ((aircheckref01_PutInt.f k (wrap64 (IntKind.u64.wrap (Int.tdiv (IntKind.u64.wrap (x7+(shl .u64 (Int.tmod (IntKind.u64.wrap (bt x0 (wrap64 (x1+x8)))) 128) (wrap64 (7*x8))))) 2)))).bind fun bt501=>(if bt501.2=0 then (if 0<=x1 then (if x1<=(wrap64 ((wrap64 (x1+x8))+1)) then (if (wrap64 ((wrap64 (x1+x8))+1))<=(x0.size:Int) then (if bt501.1.toList=(x0.extract (x1:Int).toNat ((wrap64 ((wrap64 (x1+x8))+1)):Int).toNat).toList then (some (wrap64 (IntKind.u64.wrap (Int.tdiv (IntKind.u64.wrap (x7+(shl .u64 (Int.tmod (IntKind.u64.wrap (bt x0 (wrap64 (x1+x8)))) 128) (wrap64 (7*x8))))) 2)),wrap64 ((wrap64 (x1+x8))+1),0)) else (some (0,0,10))) else (none)) else (none)) else (none)) else (some (0,0,10)))))) else (none)) else (none)) else (none)) else (some (0,0,10))
end
def aircheckref01_Int.f(k:Nat)(a0:ByteArray)(a1:Int):Option (Int × Int × Int):=if a1<0 then (aircheckref01_Int.j0 k a0 a1 true) else (aircheckref01_Int.j0 k a0 a1 (decide (a1>(a0.size:Int))))
end Go.Proofs.YtfdlmpicmkpabaaDoor.PB
end
section
namespace Go.Proofs.YtfdlmpicmkpabaaDoor.PB
open Go.Proofs.YtfdlmpicmkpabaaDoor.Ext
attribute [local go_sem] u32_signed u32_max
open Go.RowKit Go.Proofs.YtfdlmpicmkpabaaDoorW.PrintWords Go.Proofs.YtfdlmpicmkpabaaDoorW.PrintLast Go.Proofs.YtfdlmpicmkpabaaDoorW.PrintMore
attribute [local go_sem] max2_int min2_int max_two min_two max_three min_three max_four min_four -- for this text's walks alone
def aircheckref01_String.f(k:Nat)(a0:ByteArray)(a1:Int):Option (ByteArray × Int × Int):=(aircheckref01_Int.f k a0 a1).bind fun bt503=>(if bt503.2.2=0 then (if bt503.1<0 then (some ((⟨#[]⟩:ByteArray),0,10)) else (if bt503.1>65536 then (some ((⟨#[]⟩:ByteArray),0,10)) else (if bt503.1>(wrap64 ((a0.size:Int) - bt503.2.1)) then (some ((⟨#[]⟩:ByteArray),0,10)) else (if 0<=bt503.2.1 then (if bt503.2.1<=(wrap64 (bt503.2.1+bt503.1)) then (if (wrap64 (bt503.2.1+bt503.1))<=(a0.size:Int) then (some (a0.extract (bt503.2.1:Int).toNat ((wrap64 (bt503.2.1+bt503.1)):Int).toNat,wrap64 (bt503.2.1+bt503.1),0)) else (none)) else (none)) else (none))))) else (some ((⟨#[]⟩:ByteArray),0,bt503.2.2)))
end Go.Proofs.YtfdlmpicmkpabaaDoor.PB
end
section
namespace Go.Proofs.YtfdlmpicmkpabaaDoor.PB
open Go.Proofs.YtfdlmpicmkpabaaDoor.Ext
attribute [local go_sem] u32_signed u32_max
open Go.RowKit Go.Proofs.YtfdlmpicmkpabaaDoorW.PrintWords Go.Proofs.YtfdlmpicmkpabaaDoorW.PrintLast Go.Proofs.YtfdlmpicmkpabaaDoorW.PrintMore
attribute [local go_sem] max2_int min2_int max_two min_two max_three min_three max_four min_four -- for this text's walks alone
def aircheckref35_pick.f(a0:Int)(a1:Int):Option (Int):=if a0<0 then (if a1=0 then (none) else (some (Int.tmod (wrap64 (-(wrap64 (a0+1)))) a1))) else (if a1=0 then (none) else (some (Int.tmod a0 a1)))
set_option maxHeartbeats 8000000 in
set_option maxRecDepth 100000 in
theorem aircheckref35_pick.calls(a0:Int)(a1:Int)(r:Int)(w:World)(h:aircheckref35_pick.f a0 a1=some r):
  Calls Tryd.prog 44 #[.int .i64 a0,.int .i64 a1] w fun e w'=>e=.returned (.int .i64 r)∧Drawn0 w w':=by
 have H:(if a0<0 then (if a1=0 then (none) else (some (Int.tmod (wrap64 (-(wrap64 (a0+1)))) a1))) else (if a1=0 then (none) else (some (Int.tmod a0 a1))))=some r:=h;clear h
 by_cases c3:a0<0
 ·rw[if_pos c3] at H;have c3b0:decide (a0<0)=true:=decide_eq_true c3;clear c3
  by_cases c4:a1=0
  ·rw[if_pos c4] at H;exact absurd H (by simp)
  ·rw[if_neg c4] at H;have c4b0:(a1==0)=false:=beq_eq_false_iff_ne.mpr c4;have c4b1:(a1 !=0)=true:=bne_iff_ne.mpr c4;obtain rfl:=Option.some.inj H
   go_enter Tryd.func44,Tryd.ntmps44
   go_wp2
   go_ret
   exact⟨by first |rfl |(simp;done) |(simp[*];done),by repeat (first |exact Drawn0.refl _ |apply Drawn0.step)⟩
 ·rw[if_neg c3] at H;have c3b0:decide (a0<0)=false:=decide_eq_false c3;clear c3
  by_cases c5:a1=0
  ·rw[if_pos c5] at H;exact absurd H (by simp)
  ·rw[if_neg c5] at H;have c5b0:(a1==0)=false:=beq_eq_false_iff_ne.mpr c5;have c5b1:(a1 !=0)=true:=bne_iff_ne.mpr c5;obtain rfl:=Option.some.inj H
   go_enter Tryd.func44,Tryd.ntmps44
   go_wp2
   go_ret
   exact⟨by first |rfl |(simp;done) |(simp[*];done),by repeat (first |exact Drawn0.refl _ |apply Drawn0.step)⟩
end Go.Proofs.YtfdlmpicmkpabaaDoor.PB
end
section
namespace Go.Proofs.YtfdlmpicmkpabaaDoor.PB
open Go.Proofs.YtfdlmpicmkpabaaDoor.Ext
attribute [local go_sem] u32_signed u32_max
open Go.RowKit Go.Proofs.YtfdlmpicmkpabaaDoorW.PrintWords Go.Proofs.YtfdlmpicmkpabaaDoorW.PrintLast Go.Proofs.YtfdlmpicmkpabaaDoorW.PrintMore
attribute [local go_sem] max2_int min2_int max_two min_two max_three min_three max_four min_four -- for this text's walks alone
def aircheckref35_Key.f(k:Nat)(a0:Int):Option (ByteArray):=(aircheckref35_pick.f a0 1099511627776).bind fun t204=>((aircheckref01_PutInt.f k t204).bind fun bt205=>((aircheckref02_Sum.f k bt205.1).bind fun t207=>(some t207)))
set_option maxHeartbeats 8000000 in
set_option maxRecDepth 100000 in
theorem aircheckref35_Key.calls(k:Nat)(a0:Int)(r:ByteArray)(w:World)(h:aircheckref35_Key.f k a0=some r):
  Calls Tryd.prog 11 #[.int .i64 a0] w fun e w'=>e=.returned (.string r)∧Below w.heap.size w w':=by
 have HB:=Aside0.mk (Below.refl w.heap.size w);have H:((aircheckref35_pick.f a0 1099511627776).bind fun t204=>((aircheckref01_PutInt.f k t204).bind fun bt205=>((aircheckref02_Sum.f k bt205.1).bind fun t207=>(some t207))))=some r:=h;clear h;replace H:=Option.bind_eq_some_iff.mp H;obtain⟨t204,A20,H⟩:=H;replace H:((aircheckref01_PutInt.f k t204).bind fun bt205=>((aircheckref02_Sum.f k bt205.1).bind fun t207=>(some t207)))=some r:=H;have A2:=Aside0.mk A20;clear A20;replace H:=Option.bind_eq_some_iff.mp H;obtain⟨⟨t205,t206⟩,A30,H⟩:=H;replace H:((aircheckref02_Sum.f k t205).bind fun t207=>(some t207))=some r:=H;have A3:=Aside0.mk A30;clear A30;replace H:=Option.bind_eq_some_iff.mp H;obtain⟨t207,A40,H⟩:=H;replace H:(some t207)=some r:=H;have A4:=Aside0.mk A40;clear A40;obtain rfl:=Option.some.inj H
 go_enter Tryd.func11,Tryd.ntmps11
 go_wp2_with (first |((with_reducible refine gate_callee (f:=44) rfl ?_);refine goesL_ (some 7) rfl rfl Tryd.func44 (by kernel_rfl) rfl #[.int .i64 a0,.int .i64 1099511627776] rfl (by (try simp only[List.map_toArray,List.map_cons,List.map_nil]);first |done |rfl |(simp only[List.length_drop,List.length_take];rfl)) ?_;(with_reducible refine (aircheckref35_pick.calls a0 1099511627776 t204 _ A2.out).mono ?_);rintro e w' ⟨rfl,⟨nd,rfl⟩⟩;refine⟨_,rfl,?_⟩) |((with_reducible refine gate_callee (f:=45) rfl ?_);refine goesL_ (some 8) rfl rfl Tryd.func45 (by kernel_rfl) rfl #[.int .i64 t204] rfl (by (try simp only[List.map_toArray,List.map_cons,List.map_nil]);first |done |rfl |(simp only[List.length_drop,List.length_take];rfl)) ?_;(with_reducible refine (aircheckref01_PutInt.calls k t204 t205 t206 _ A3.out).mono ?_);rintro e w5 ⟨rfl,hb⟩;refine⟨_,rfl,?_⟩;have n0_:=Aside0.mk (below_step (by repeat (first |(with_reducible first |exact HB.out |apply below_alloc |apply pw_below_drewN |apply below_drew1) |exact HB.out)) hb);clear HB;have HB:=n0_;clear n0_;(try clear hb);(try clear hb2);(try clear hk);(try clear hi)) |((with_reducible refine gate_callee (f:=46) rfl ?_);refine goesL_ (some 12) rfl rfl Tryd.func46 (by kernel_rfl) rfl #[.string t205] rfl (by (try simp only[List.map_toArray,List.map_cons,List.map_nil]);first |done |rfl |(simp only[List.length_drop,List.length_take];rfl)) ?_;(with_reducible refine (aircheckref02_Sum.calls k t205 t207 _ A4.out).mono ?_);rintro e w6 ⟨rfl,hb⟩;refine⟨_,rfl,?_⟩;have n0_:=Aside0.mk (below_step (by repeat (first |(with_reducible first |exact HB.out |apply below_alloc |apply pw_below_drewN |apply below_drew1) |exact HB.out)) hb);clear HB;have HB:=n0_;clear n0_;(try clear hb);(try clear hb2);(try clear hk);(try clear hi)))
 go_ret
 exact⟨by first |rfl |(simp[errW_none,errW_some]<;>rfl) |(simp[*,errW_none,errW_some]<;>rfl),by repeat (first |(with_reducible first |exact HB.out |apply below_alloc |apply pw_below_drewN |apply below_drew1) |exact HB.out)⟩
end Go.Proofs.YtfdlmpicmkpabaaDoor.PB
end
section
namespace Go.Proofs.YtfdlmpicmkpabaaDoor.Ext
set_option maxRecDepth 100000
open Go.RowKit Go.Joins
theorem open_int4{H:Type}{enc:TypeId × Value->H}{P:Program}{w:World}{r:Reach}{b0 base:Nat}{spare:Nat->Bool}{held:Bool}{t e:TypeId}{v:Value}{d:DataW H}{p:List MemPlace}
  (ht:P.underlying t=some (.array 4 e)) (he:P.underlying e=some (.int .i64)) (hct:P.cellsOf t=4) (hce:P.cellsOf e=1)
  (hv:Value.okWide P w r b0 t v) (h:DataW.Trod enc P w base spare held t v d p):∃a0 a1 a2 a3:Int,v=.agg #[.int .i64 a0,.int .i64 a1,.int .i64 a2,.int .i64 a3]∧(W64 a0∧W64 a1∧W64 a2∧W64 a3):=by
 unfold Value.okWide at hv;rw[ht] at hv;obtain⟨cs,rfl,hsz,_⟩:=hv;have hz:cs.toList.length=4:=by rw[Array.length_toList];exact hsz.trans hct
 obtain⟨fuel,hf⟩:=h;have hf2:DataW.trod enc P w base spare held fuel t cs.toList=some (d,p):=hf
 suffices hh:∃a0 a1 a2 a3:Int,cs.toList=[.int .i64 a0,.int .i64 a1,.int .i64 a2,.int .i64 a3]∧(W64 a0∧W64 a1∧W64 a2∧W64 a3) by
  obtain⟨a0,a1,a2,a3,h1,h2⟩:=hh;refine⟨a0,a1,a2,a3,?_,h2⟩;congr 1;exact Array.toList_inj.1 h1
 generalize cs.toList=c at*
 obtain⟨xs,m,rfl,_,_,hn,hel⟩:=DataW.trod_array ht hf2
 match xs,hn,c,hz with
 | [y0,y1,y2,y3],_,[c0,c1,c2,c3],_=>
  have h0:=hel 0 (by decide);have h1:=hel 1 (by decide);have h2:=hel 2 (by decide);have h3:=hel 3 (by decide);rw[hce] at h0 h1 h2 h3;simp at h0 h1 h2 h3;obtain⟨a0,e0,_,w0⟩:=DataW.trod_int he h0;obtain⟨a1,e1,_,w1⟩:=DataW.trod_int he h1;obtain⟨a2,e2,_,w2⟩:=DataW.trod_int he h2;obtain⟨a3,e3,_,w3⟩:=DataW.trod_int he h3;simp at e0 e1 e2 e3;subst e0 e1 e2 e3;exact⟨a0,a1,a2,a3,rfl,w0,w1,w2,w3⟩
end Go.Proofs.YtfdlmpicmkpabaaDoor.Ext
end
