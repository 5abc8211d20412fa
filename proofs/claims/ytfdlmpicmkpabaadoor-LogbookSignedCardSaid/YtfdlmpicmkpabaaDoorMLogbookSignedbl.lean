import Derived.Test.YtfdlmpicmkpabaaDoorMLogbookSignedbk
import Derived.Lib.Hide
/-
  Texts of this claim, one behind the other: what they prove stands above each.
-/
section
namespace Go.Proofs.YtfdlmpicmkpabaaDoor.PL
open Go.Proofs.YtfdlmpicmkpabaaDoor.Ext
attribute [local go_sem] Qbg Qb3
open Go.RowKit Go.Proofs.YtfdlmpicmkpabaaDoorW.PrintWords Go.Proofs.YtfdlmpicmkpabaaDoorW.PrintLast Go.Proofs.YtfdlmpicmkpabaaDoorW.PrintMore
attribute [local go_sem] Qbs Qbv Qb9 Qb8 Qbk Qbl Qbt Qbw -- for this text's walks alone
mutual
def Qan.l0:Nat->List ByteArray->List ByteArray->List ByteArray->Int->Option (Bool)
 |0,_,_,_,_=>none
 |k+1,x0,x1,x5,x6=>if x6<(x1.length:Int) then (if 0<=x6 then ((Qaq.f (rdOf ByteArray.empty x1 x6)).bind fun t115=>(if x5.length<8796093022208 then (Qan.l0 k x0 x1 (x5++[t115]) (wrap64 (x6+1))) else (none))) else (none)) else (Qan.l1 k x0 x1 x5 0)
def Qan.l1:Nat->List ByteArray->List ByteArray->List ByteArray->Int->Option (Bool)
 |0,_,_,_,_=>none
 |k+1,x0,x1,x5,x7=>if x7<(x0.length:Int) then (if 0<=x7 then ((Qaq.f (rdOf ByteArray.empty x0 x7)).bind fun t120=>(Qan.l2 k x0 x1 x5 x7 t120 0)) else (none)) else (some false)
def Qan.l2:Nat->List ByteArray->List ByteArray->List ByteArray->Int->ByteArray->Int->Option (Bool)
 |0,_,_,_,_,_,_=>none
 |k+1,x0,x1,x5,x7,x8,x9=>if x9<(x1.length:Int) then (if 0<=x7 then (if x7<(x0.length:Int) then (if 0<=x9 then (if (rdOf ByteArray.empty x0 x7).toList=(rdOf ByteArray.empty x1 x9).toList then (Qan.l2 k x0 x1 x5 x7 x8 (wrap64 (x9+1))) else (if x9<(x5.length:Int) then (if x8.toList=(rdOf ByteArray.empty x5 x9).toList then (some true) else (Qan.l2 k x0 x1 x5 x7 x8 (wrap64 (x9+1)))) else (none))) else (none)) else (none)) else (none)) else (Qan.l1 k x0 x1 x5 (wrap64 (x7+1)))
end
def Qan.f(k:Nat)(l0:List ByteArray)(l1:List ByteArray):Option (Bool):=Qan.l0 k l0 l1 ([]:List ByteArray) 0
set_option maxHeartbeats 8000000 in
set_option maxRecDepth 100000 in
theorem Qan.calls(k:Nat)(A0:Option Addr)(c0:Nat)(l0:List ByteArray)(A1:Option Addr)(c1:Nat)(l1:List ByteArray)(r:Bool)(w:World)(hr0:Kd.C Kd.string w A0 l0.length l0)(hc0:l0.length<=c0)(hr1:Kd.C Kd.string w A1 l1.length l1)(hc1:l1.length<=c1)(h:Qan.f k l0 l1=some r):
  Calls Tryd.prog 18 #[.slice A0 l0.length c0,.slice A1 l1.length c1] w fun e w'=>e=.returned (.bool r)∧Below w.heap.size w w':=by
 have HR0:=Qaa.mk hr0;have HC0:=Qaa.mk hc0;clear hr0 hc0;have HR1:=Qaa.mk hr1;have HC1:=Qaa.mk hc1;clear hr1 hc1;have HB:=Qaa.mk (Below.refl w.heap.size w);have H:(Qan.l0 k l0 l1 ([]:List ByteArray) 0)=some r:=h;clear h;have H':=Qaa.mk H;clear H
 go_enter Tryd.func18,Tryd.ntmps18
 go_wp2
 repeat (go_quiet (fail);try go_wp2)
 go_loopg [5,6] k (fun kq v5 v6 w'=>∃(x5_1:List ByteArray) (x6_1:Int),v6=.int .i64 x6_1∧Qaa (Qan.l0 kq l0 l1 x5_1 x6_1=some r)∧Qaa (kq<=k)∧Qaa (Kd.R Kd.string 9 w' w.heap.size (fun _=>True) v5 x5_1)∧Qaa (Below w.heap.size w w'))
 case atStart=>exact⟨(([]:List ByteArray)),(0),(by first |rfl |(simp;done) |(simp[*];done)),H',⟨Nat.le_refl _⟩,⟨by first |exact Kd.R_nil _ _ _ _ _ |exact Kd.N_nil _ _ _ _ _ |exact Kd.V_nil _ _ _ _ _ |exact Kd.Q_nil _ _ _ _ _ |exact Kd.S_nil _ _ _ _ _⟩,⟨by repeat (first |(with_reducible first |exact HB.out |apply Qae |apply Qab |apply Qad) |exact HB.out)⟩⟩
 case round=>
  clear H'
  (try clear c1);(try clear p2)
  obtain⟨x5_1,x6_1,rfl,HA,HK1,HO_5,HB⟩:=hrel
  cases gk with
  |zero=>exact absurd HA.out (by simp[Qan.l0])
  |succ k1=>
   have H:=HA.out;clear HA;simp only[Qan.l0] at H
   by_cases c3:x6_1<(l1.length:Int)
   ·rw[if_pos c3] at H;have c3b0:decide (x6_1<(l1.length:Int))=true:=decide_eq_true c3;clear c3
    by_cases c4:0<=x6_1
    ·rw[if_pos c4] at H;have c4b0:decide (0<=x6_1)=true:=decide_eq_true c4;clear c4;replace H:=Option.bind_eq_some_iff.mp H;obtain⟨t115,A50,H⟩:=H;replace H:(if x5_1.length<8796093022208 then (Qan.l0 k1 l0 l1 (x5_1++[t115]) (wrap64 (x6_1+1))) else (none))=some r:=H;have A5:=Qaa.mk A50;clear A50
     by_cases c6:x5_1.length<8796093022208
     ·rw[if_pos c6] at H;have LMc6:=Qaa.mk c6;clear c6;obtain⟨y116,hy116⟩:∃y_:List ByteArray,y_=(x5_1++[t115]):=⟨_,rfl⟩
      replace H:(Qan.l0 k1 l0 l1 y116 (wrap64 (x6_1+1)))=some r:=by first |(rw[hy116];with_reducible exact H) |(have H2_:=(Option.bind_some _ _).symm.trans H;rw[hy116];with_reducible exact H2_) |(have H2_:=(Option.bind_some _ _).symm.trans H;with_reducible exact H2_) |with_reducible exact H |(rw[hy116];exact H) |exact H
      have Ny116:=Qaa.mk hy116;clear hy116;have H':=Qaa.mk H;clear H;have p114:0<=(x6_1:Int):=of_decide_eq_true (by first |(with_reducible assumption) |assumption);have q114:x6_1<(l1.length:Int):=of_decide_eq_true (by first |(with_reducible assumption) |assumption);obtain⟨ad114,e114,hx114_0⟩:=Kd.Qc8 HR1.out x6_1 p114 q114
      cases e114
      replace hx114_0:=(HB.out.cell (World.block_lt_of_cell? w _ hx114_0)).trans hx114_0;replace p114:=eq_true p114;replace q114:=eq_true q114
      go_wp2_with (first |(go_at_call 46;(with_reducible refine (Qaq.calls (rdOf ByteArray.empty l1 x6_1) t115 _ A5.out).mono ?_);rintro e w7 ⟨rfl,hb⟩;have n0_:=Qaa.mk (Kd.Qax (by (with_reducible repeat (first |apply Kd.Qag |apply Kd.Qaf |apply Kd.Qal));exact HO_5.out) hb);have n1_:=Qaa.mk (Qaw (by repeat (first |(with_reducible first |exact HB.out |apply Qae |apply Qab |apply Qad) |exact HB.out)) hb);clear HO_5;clear HB;have HO_5:=n0_;have HB:=n1_;clear n0_ n1_;(try clear hb);(try clear hb2);(try clear hk);(try clear hi)) |((with_reducible refine Qc3 (b:=.append) (xs:= #[.tmp 16,.tmp 22]) rfl ?_);at_builtin;refine Kd.R_append Kd.string (w0:=w) w.heap.size rfl (.tmp 16) (.tmp 22) 35 9 (.string ⟨#[]⟩) 16 rfl Tryd.underlying35 info9 rfl (by decide) (by omega) u5 x5_1 t115 [.string t115] (fun _=>True) (fun _=>False) rfl rfl ?aP (fun _ hk=>hk.elim) ?aF ?aO ?aB ?aS ?aL ?_;(case aP=>exact rfl);(case aB=>exact (by repeat (first |(with_reducible first |exact HB.out |apply Qae |apply Qab |apply Qad) |exact HB.out)));(case aF=>exact (fun _ _=>trivial));(case aO=>exact (by (with_reducible repeat (first |apply Kd.Qag |apply Kd.Qaf |apply Kd.Qal));exact HO_5.out));(case aS=>exact (Qav (by repeat (first |(with_reducible first |exact HB.out |apply Qae |apply Qab |apply Qad) |exact HB.out))));(case aL=>have:=LMc6.out;omega);intro v117 w8 ho hb hg hat;rw[<-Ny116.out] at ho;have n0_:=Qaa.mk (hb);have n1_:=Qaa.mk (ho);clear HB;clear HO_5;have HB:=n0_;have HO118:=n1_;clear n0_ n1_;clear ho hb hg hat))
      repeat (go_quiet (first |(go_at_call 46;(with_reducible refine (Qaq.calls (rdOf ByteArray.empty l1 x6_1) t115 _ A5.out).mono ?_);rintro e w7 ⟨rfl,hb⟩;have n0_:=Qaa.mk (Kd.Qax (by (with_reducible repeat (first |apply Kd.Qag |apply Kd.Qaf |apply Kd.Qal));exact HO_5.out) hb);have n1_:=Qaa.mk (Qaw (by repeat (first |(with_reducible first |exact HB.out |apply Qae |apply Qab |apply Qad) |exact HB.out)) hb);clear HO_5;clear HB;have HO_5:=n0_;have HB:=n1_;clear n0_ n1_;(try clear hb);(try clear hb2);(try clear hk);(try clear hi)) |((with_reducible refine Qc3 (b:=.append) (xs:= #[.tmp 16,.tmp 22]) rfl ?_);at_builtin;refine Kd.R_append Kd.string (w0:=w) w.heap.size rfl (.tmp 16) (.tmp 22) 35 9 (.string ⟨#[]⟩) 16 rfl Tryd.underlying35 info9 rfl (by decide) (by omega) u5 x5_1 t115 [.string t115] (fun _=>True) (fun _=>False) rfl rfl ?aP (fun _ hk=>hk.elim) ?aF ?aO ?aB ?aS ?aL ?_;(case aP=>exact rfl);(case aB=>exact (by repeat (first |(with_reducible first |exact HB.out |apply Qae |apply Qab |apply Qad) |exact HB.out)));(case aF=>exact (fun _ _=>trivial));(case aO=>exact (by (with_reducible repeat (first |apply Kd.Qag |apply Kd.Qaf |apply Kd.Qal));exact HO_5.out));(case aS=>exact (Qav (by repeat (first |(with_reducible first |exact HB.out |apply Qae |apply Qab |apply Qad) |exact HB.out))));(case aL=>have:=LMc6.out;omega);intro v117 w8 ho hb hg hat;rw[<-Ny116.out] at ho;have n0_:=Qaa.mk (hb);have n1_:=Qaa.mk (ho);clear HB;clear HO_5;have HB:=n0_;have HO118:=n1_;clear n0_ n1_;clear ho hb hg hat));try go_wp2_with (first |(go_at_call 46;(with_reducible refine (Qaq.calls (rdOf ByteArray.empty l1 x6_1) t115 _ A5.out).mono ?_);rintro e w7 ⟨rfl,hb⟩;have n0_:=Qaa.mk (Kd.Qax (by (with_reducible repeat (first |apply Kd.Qag |apply Kd.Qaf |apply Kd.Qal));exact HO_5.out) hb);have n1_:=Qaa.mk (Qaw (by repeat (first |(with_reducible first |exact HB.out |apply Qae |apply Qab |apply Qad) |exact HB.out)) hb);clear HO_5;clear HB;have HO_5:=n0_;have HB:=n1_;clear n0_ n1_;(try clear hb);(try clear hb2);(try clear hk);(try clear hi)) |((with_reducible refine Qc3 (b:=.append) (xs:= #[.tmp 16,.tmp 22]) rfl ?_);at_builtin;refine Kd.R_append Kd.string (w0:=w) w.heap.size rfl (.tmp 16) (.tmp 22) 35 9 (.string ⟨#[]⟩) 16 rfl Tryd.underlying35 info9 rfl (by decide) (by omega) u5 x5_1 t115 [.string t115] (fun _=>True) (fun _=>False) rfl rfl ?aP (fun _ hk=>hk.elim) ?aF ?aO ?aB ?aS ?aL ?_;(case aP=>exact rfl);(case aB=>exact (by repeat (first |(with_reducible first |exact HB.out |apply Qae |apply Qab |apply Qad) |exact HB.out)));(case aF=>exact (fun _ _=>trivial));(case aO=>exact (by (with_reducible repeat (first |apply Kd.Qag |apply Kd.Qaf |apply Kd.Qal));exact HO_5.out));(case aS=>exact (Qav (by repeat (first |(with_reducible first |exact HB.out |apply Qae |apply Qab |apply Qad) |exact HB.out))));(case aL=>have:=LMc6.out;omega);intro v117 w8 ho hb hg hat;rw[<-Ny116.out] at ho;have n0_:=Qaa.mk (hb);have n1_:=Qaa.mk (ho);clear HB;clear HO_5;have HB:=n0_;have HO118:=n1_;clear n0_ n1_;clear ho hb hg hat)))
      go_roundg k1
      case measure=>have:=HK1.out;omega
      case rel=>exact⟨(y116),(wrap64 (x6_1+1)),(by first |rfl |(simp;done) |(simp[*];done)),H',⟨by have:=HK1.out;omega⟩,⟨by (with_reducible repeat (first |apply Kd.Qag |apply Kd.Qaf |apply Kd.Qal));exact HO118.out⟩,⟨by repeat (first |(with_reducible first |exact HB.out |apply Qae |apply Qab |apply Qad) |exact HB.out)⟩⟩
     ·rw[if_neg c6] at H;exact absurd H (by simp)
    ·rw[if_neg c4] at H;exact absurd H (by simp)
   ·rw[if_neg c3] at H;have c3b0:decide (x6_1<(l1.length:Int))=false:=decide_eq_false c3;clear c3;have H':=Qaa.mk H;clear H
    go_wp2
    repeat (go_quiet (fail);try go_wp2)
    go_loopg [7] k1 (fun kq v7 w'=>∃(x7_2:Int),v7=.int .i64 x7_2∧Qaa (Qan.l1 kq l0 l1 x5_1 x7_2=some r)∧Qaa (kq<=k1)∧Qaa (Kd.R Kd.string 9 w' w.heap.size (fun _=>True) u5 x5_1)∧Qaa (Below w.heap.size w w'))
    case atStart=>exact⟨(0),(by first |rfl |(simp;done) |(simp[*];done)),H',⟨Nat.le_refl _⟩,⟨by (with_reducible repeat (first |apply Kd.Qag |apply Kd.Qaf |apply Kd.Qal));exact HO_5.out⟩,⟨by repeat (first |(with_reducible first |exact HB.out |apply Qae |apply Qab |apply Qad) |exact HB.out)⟩⟩
    case round=>
     clear H'
     (try clear c1);(try clear p1);(try clear q1);(try clear hx1);(try clear p2);(try clear c3);(try clear c3b0);(try clear c4);(try clear c4b0);(try clear c6);(try clear p6);(try clear hx114_0);(try clear p114);(try clear p2);(try clear q114)
     obtain⟨x7_2,rfl,HA,HK2,HO_5,HB⟩:=hrel
     cases gk with
     |zero=>exact absurd HA.out (by simp[Qan.l1])
     |succ k2=>
      have H:=HA.out;clear HA;simp only[Qan.l1] at H
      by_cases c9:x7_2<(l0.length:Int)
      ·rw[if_pos c9] at H;have c9b0:decide (x7_2<(l0.length:Int))=true:=decide_eq_true c9;clear c9
       by_cases c10:0<=x7_2
       ·rw[if_pos c10] at H;have c10b0:decide (0<=x7_2)=true:=decide_eq_true c10;clear c10;replace H:=Option.bind_eq_some_iff.mp H;obtain⟨t120,A110,H⟩:=H;replace H:(Qan.l2 k2 l0 l1 x5_1 x7_2 t120 0)=some r:=H;have A11:=Qaa.mk A110;clear A110;have H':=Qaa.mk H;clear H;have p119:0<=(x7_2:Int):=of_decide_eq_true (by first |(with_reducible assumption) |assumption);have q119:x7_2<(l0.length:Int):=of_decide_eq_true (by first |(with_reducible assumption) |assumption);obtain⟨ad119,e119,hx119_0⟩:=Kd.Qc8 HR0.out x7_2 p119 q119
        cases e119
        replace hx119_0:=(HB.out.cell (World.block_lt_of_cell? w _ hx119_0)).trans hx119_0;replace p119:=eq_true p119;replace q119:=eq_true q119
        go_wp2_with (first |(go_at_call 46;(with_reducible refine (Qaq.calls (rdOf ByteArray.empty l0 x7_2) t120 _ A11.out).mono ?_);rintro e w12 ⟨rfl,hb⟩;have n0_:=Qaa.mk (Kd.Qax (by (with_reducible repeat (first |apply Kd.Qag |apply Kd.Qaf |apply Kd.Qal));exact HO_5.out) hb);have n1_:=Qaa.mk (Qaw (by repeat (first |(with_reducible first |exact HB.out |apply Qae |apply Qab |apply Qad) |exact HB.out)) hb);clear HO_5;clear HB;have HO_5:=n0_;have HB:=n1_;clear n0_ n1_;(try clear hb);(try clear hb2);(try clear hk);(try clear hi)))
        repeat (go_quiet (first |(go_at_call 46;(with_reducible refine (Qaq.calls (rdOf ByteArray.empty l0 x7_2) t120 _ A11.out).mono ?_);rintro e w12 ⟨rfl,hb⟩;have n0_:=Qaa.mk (Kd.Qax (by (with_reducible repeat (first |apply Kd.Qag |apply Kd.Qaf |apply Kd.Qal));exact HO_5.out) hb);have n1_:=Qaa.mk (Qaw (by repeat (first |(with_reducible first |exact HB.out |apply Qae |apply Qab |apply Qad) |exact HB.out)) hb);clear HO_5;clear HB;have HO_5:=n0_;have HB:=n1_;clear n0_ n1_;(try clear hb);(try clear hb2);(try clear hk);(try clear hi)));try go_wp2_with (first |(go_at_call 46;(with_reducible refine (Qaq.calls (rdOf ByteArray.empty l0 x7_2) t120 _ A11.out).mono ?_);rintro e w12 ⟨rfl,hb⟩;have n0_:=Qaa.mk (Kd.Qax (by (with_reducible repeat (first |apply Kd.Qag |apply Kd.Qaf |apply Kd.Qal));exact HO_5.out) hb);have n1_:=Qaa.mk (Qaw (by repeat (first |(with_reducible first |exact HB.out |apply Qae |apply Qab |apply Qad) |exact HB.out)) hb);clear HO_5;clear HB;have HO_5:=n0_;have HB:=n1_;clear n0_ n1_;(try clear hb);(try clear hb2);(try clear hk);(try clear hi))))
        go_loopg [9] k2 (fun kq v9 w'=>∃(x9_3:Int),v9=.int .i64 x9_3∧Qaa (Qan.l2 kq l0 l1 x5_1 x7_2 t120 x9_3=some r)∧Qaa (kq<=k2)∧Qaa (Kd.R Kd.string 9 w' w.heap.size (fun _=>True) u5 x5_1)∧Qaa (Below w.heap.size w w'))
        case atStart=>exact⟨(0),(by first |rfl |(simp;done) |(simp[*];done)),H',⟨Nat.le_refl _⟩,⟨by (with_reducible repeat (first |apply Kd.Qag |apply Kd.Qaf |apply Kd.Qal));exact HO_5.out⟩,⟨by repeat (first |(with_reducible first |exact HB.out |apply Qae |apply Qab |apply Qad) |exact HB.out)⟩⟩
        case round=>
         clear H'
         (try clear c1);(try clear p1);(try clear q1);(try clear hx1);(try clear p2);(try clear c3);(try clear c3b0);(try clear c4);(try clear c4b0);(try clear c6);(try clear p6);(try clear c9);(try clear c9b0);(try clear c10);(try clear c10b0);(try clear p11);(try clear q11);(try clear hx11);(try clear hx114_0);(try clear hx119_0);(try clear p1);(try clear p114);(try clear p119);(try clear p2);(try clear p6);(try clear q1);(try clear q114);(try clear q119)
         obtain⟨x9_3,rfl,HA,HK3,HO_5,HB⟩:=hrel
         cases gk with
         |zero=>exact absurd HA.out (by simp[Qan.l2])
         |succ k3=>
          have H:=HA.out;clear HA;simp only[Qan.l2] at H
          by_cases c13:x9_3<(l1.length:Int)
          ·rw[if_pos c13] at H;have c13b0:decide (x9_3<(l1.length:Int))=true:=decide_eq_true c13;clear c13
           by_cases c14:0<=x7_2
           ·rw[if_pos c14] at H;have c14b0:decide (0<=x7_2)=true:=decide_eq_true c14;clear c14
            by_cases c15:x7_2<(l0.length:Int)
            ·rw[if_pos c15] at H;have c15b0:decide (x7_2<(l0.length:Int))=true:=decide_eq_true c15;clear c15
             by_cases c16:0<=x9_3
             ·rw[if_pos c16] at H;have c16b0:decide (0<=x9_3)=true:=decide_eq_true c16;clear c16
              by_cases c17:(rdOf ByteArray.empty l0 x7_2).toList=(rdOf ByteArray.empty l1 x9_3).toList
              ·rw[if_pos c17] at H;have c17b0:((rdOf ByteArray.empty l0 x7_2).toList==(rdOf ByteArray.empty l1 x9_3).toList)=true:=beq_iff_eq.mpr c17;have c17b1:((rdOf ByteArray.empty l0 x7_2).toList !=(rdOf ByteArray.empty l1 x9_3).toList)=false:=bne_eq_false_iff_eq.mpr c17;clear c17;have H':=Qaa.mk H;clear H;have p121:0<=(x7_2:Int):=of_decide_eq_true (by first |(with_reducible assumption) |assumption);have q121:x7_2<(l0.length:Int):=of_decide_eq_true (by first |(with_reducible assumption) |assumption);obtain⟨ad121,e121,hx121_0⟩:=Kd.Qc8 HR0.out x7_2 p121 q121;obtain rfl:ad119=ad121:=(by injection e121);replace hx121_0:=(HB.out.cell (World.block_lt_of_cell? w _ hx121_0)).trans hx121_0;replace p121:=eq_true p121;replace q121:=eq_true q121;have p122:0<=(x9_3:Int):=of_decide_eq_true (by first |(with_reducible assumption) |assumption);have q122:x9_3<(l1.length:Int):=of_decide_eq_true (by first |(with_reducible assumption) |assumption);obtain⟨ad122,e122,hx122_0⟩:=Kd.Qc8 HR1.out x9_3 p122 q122
               cases e122
               replace hx122_0:=(HB.out.cell (World.block_lt_of_cell? w _ hx122_0)).trans hx122_0;replace p122:=eq_true p122;replace q122:=eq_true q122
               go_wp2
               repeat (go_quiet (fail);try go_wp2)
               go_roundg k3
               case measure=>have:=HK1.out;have:=HK2.out;have:=HK3.out;omega
               case rel=>exact⟨(wrap64 (x9_3+1)),(by first |rfl |(simp;done) |(simp[*];done)),H',⟨by have:=HK1.out;have:=HK2.out;have:=HK3.out;omega⟩,⟨by (with_reducible repeat (first |apply Kd.Qag |apply Kd.Qaf |apply Kd.Qal));exact HO_5.out⟩,⟨by repeat (first |(with_reducible first |exact HB.out |apply Qae |apply Qab |apply Qad) |exact HB.out)⟩⟩
              ·rw[if_neg c17] at H;have c17b0:((rdOf ByteArray.empty l0 x7_2).toList==(rdOf ByteArray.empty l1 x9_3).toList)=false:=beq_eq_false_iff_ne.mpr c17;have c17b1:((rdOf ByteArray.empty l0 x7_2).toList !=(rdOf ByteArray.empty l1 x9_3).toList)=true:=bne_iff_ne.mpr c17
               by_cases c18:x9_3<(x5_1.length:Int)
               ·rw[if_pos c18] at H;have c18b0:decide (x9_3<(x5_1.length:Int))=true:=decide_eq_true c18;clear c18
                by_cases c19:t120.toList=(rdOf ByteArray.empty x5_1 x9_3).toList
                ·rw[if_pos c19] at H;have c19b0:(t120.toList==(rdOf ByteArray.empty x5_1 x9_3).toList)=true:=beq_iff_eq.mpr c19;have c19b1:(t120.toList !=(rdOf ByteArray.empty x5_1 x9_3).toList)=false:=bne_eq_false_iff_eq.mpr c19;clear c19;obtain rfl:=Option.some.inj H;have p121:0<=(x7_2:Int):=of_decide_eq_true (by first |(with_reducible assumption) |assumption);have q121:x7_2<(l0.length:Int):=of_decide_eq_true (by first |(with_reducible assumption) |assumption);obtain⟨ad121,e121,hx121_0⟩:=Kd.Qc8 HR0.out x7_2 p121 q121;obtain rfl:ad119=ad121:=(by injection e121);replace hx121_0:=(HB.out.cell (World.block_lt_of_cell? w _ hx121_0)).trans hx121_0;replace p121:=eq_true p121;replace q121:=eq_true q121;have p122:0<=(x9_3:Int):=of_decide_eq_true (by first |(with_reducible assumption) |assumption);have q122:x9_3<(l1.length:Int):=of_decide_eq_true (by first |(with_reducible assumption) |assumption);obtain⟨ad122,e122,hx122_0⟩:=Kd.Qc8 HR1.out x9_3 p122 q122
                 cases e122
                 replace hx122_0:=(HB.out.cell (World.block_lt_of_cell? w _ hx122_0)).trans hx122_0;replace p122:=eq_true p122;replace q122:=eq_true q122;obtain⟨Ao20,co20,eo20⟩:=Kd.Qb7 HO_5.out;subst eo20;have p123:0<=(x9_3:Int):=of_decide_eq_true (by first |(with_reducible assumption) |assumption);have q123:x9_3<(x5_1.length:Int):=of_decide_eq_true (by first |(with_reducible assumption) |assumption);obtain⟨ad123,e123,hx123_0⟩:=Kd.Qc8 (Kd.Qba HO_5.out).2.2 x9_3 p123 q123
                 cases e123
                 replace p123:=eq_true p123;replace q123:=eq_true q123
                 go_wp2
                 repeat (go_quiet (fail);try go_wp2)
                 go_ret
                 exact⟨by first |rfl |(simp[Qa1,Qa0]<;>rfl) |(simp[*,Qa1,Qa0]<;>rfl),by repeat (first |(with_reducible first |exact HB.out |apply Qae |apply Qab |apply Qad) |exact HB.out)⟩
                ·rw[if_neg c19] at H;have c19b0:(t120.toList==(rdOf ByteArray.empty x5_1 x9_3).toList)=false:=beq_eq_false_iff_ne.mpr c19;have c19b1:(t120.toList !=(rdOf ByteArray.empty x5_1 x9_3).toList)=true:=bne_iff_ne.mpr c19;have H':=Qaa.mk H;clear H;have p121:0<=(x7_2:Int):=of_decide_eq_true (by first |(with_reducible assumption) |assumption);have q121:x7_2<(l0.length:Int):=of_decide_eq_true (by first |(with_reducible assumption) |assumption);obtain⟨ad121,e121,hx121_0⟩:=Kd.Qc8 HR0.out x7_2 p121 q121;obtain rfl:ad119=ad121:=(by injection e121);replace hx121_0:=(HB.out.cell (World.block_lt_of_cell? w _ hx121_0)).trans hx121_0;replace p121:=eq_true p121;replace q121:=eq_true q121;have p122:0<=(x9_3:Int):=of_decide_eq_true (by first |(with_reducible assumption) |assumption);have q122:x9_3<(l1.length:Int):=of_decide_eq_true (by first |(with_reducible assumption) |assumption);obtain⟨ad122,e122,hx122_0⟩:=Kd.Qc8 HR1.out x9_3 p122 q122
                 cases e122
                 replace hx122_0:=(HB.out.cell (World.block_lt_of_cell? w _ hx122_0)).trans hx122_0;replace p122:=eq_true p122;replace q122:=eq_true q122;obtain⟨Ao21,co21,eo21⟩:=Kd.Qb7 HO_5.out;subst eo21;have p123:0<=(x9_3:Int):=of_decide_eq_true (by first |(with_reducible assumption) |assumption);have q123:x9_3<(x5_1.length:Int):=of_decide_eq_true (by first |(with_reducible assumption) |assumption);obtain⟨ad123,e123,hx123_0⟩:=Kd.Qc8 (Kd.Qba HO_5.out).2.2 x9_3 p123 q123
                 cases e123
                 replace p123:=eq_true p123;replace q123:=eq_true q123
                 go_wp2
                 repeat (go_quiet (fail);try go_wp2)
                 go_roundg k3
                 case measure=>have:=HK1.out;have:=HK2.out;have:=HK3.out;omega
                 case rel=>exact⟨(wrap64 (x9_3+1)),(by first |rfl |(simp;done) |(simp[*];done)),H',⟨by have:=HK1.out;have:=HK2.out;have:=HK3.out;omega⟩,⟨by (with_reducible repeat (first |apply Kd.Qag |apply Kd.Qaf |apply Kd.Qal));exact HO_5.out⟩,⟨by repeat (first |(with_reducible first |exact HB.out |apply Qae |apply Qab |apply Qad) |exact HB.out)⟩⟩
               ·rw[if_neg c18] at H;exact absurd H (by simp)
             ·rw[if_neg c16] at H;exact absurd H (by simp)
            ·rw[if_neg c15] at H;exact absurd H (by simp)
           ·rw[if_neg c14] at H;exact absurd H (by simp)
          ·rw[if_neg c13] at H;have c13b0:decide (x9_3<(l1.length:Int))=false:=decide_eq_false c13;clear c13;have H':=Qaa.mk H;clear H
           go_wp2
           repeat (go_quiet (fail);try go_wp2)
           go_roundg k3
           case measure=>have:=HK1.out;have:=HK2.out;have:=HK3.out;omega
           case rel=>exact⟨(wrap64 (x7_2+1)),(by first |rfl |(simp;done) |(simp[*];done)),H',⟨by have:=HK1.out;have:=HK2.out;have:=HK3.out;omega⟩,⟨by (with_reducible repeat (first |apply Kd.Qag |apply Kd.Qaf |apply Kd.Qal));exact HO_5.out⟩,⟨by repeat (first |(with_reducible first |exact HB.out |apply Qae |apply Qab |apply Qad) |exact HB.out)⟩⟩
       ·rw[if_neg c10] at H;exact absurd H (by simp)
      ·rw[if_neg c9] at H;have c9b0:decide (x7_2<(l0.length:Int))=false:=decide_eq_false c9;clear c9;obtain rfl:=Option.some.inj H
       go_wp2
       repeat (go_quiet (fail);try go_wp2)
       go_ret
       exact⟨by first |rfl |(simp[Qa1,Qa0]<;>rfl) |(simp[*,Qa1,Qa0]<;>rfl),by repeat (first |(with_reducible first |exact HB.out |apply Qae |apply Qab |apply Qad) |exact HB.out)⟩
end Go.Proofs.YtfdlmpicmkpabaaDoor.PL
end
section
namespace Go.Proofs.YtfdlmpicmkpabaaDoor.LbSpec
set_option maxRecDepth 100000
open Go.RowKit Go.Proofs.YtfdlmpicmkpabaaDoorW.PrintWords Go.Proofs.YtfdlmpicmkpabaaDoorW.PrintLast Go.Proofs.YtfdlmpicmkpabaaDoorW.PrintMore Go.Proofs.YtfdlmpicmkpabaaDoor.Ext Go.Proofs.YtfdlmpicmkpabaaDoor.PL
set_option maxRecDepth 100000
theorem bext{s t:ByteArray}(h:s.data.toList=t.data.toList):s=t:=by
 cases s;cases t;congr 1;exact Array.toList_inj.1 h
theorem tl_inj{s t:ByteArray}:s.toList=t.toList↔s=t:=by
 rw[Lib.toList_data,Lib.toList_data];exact⟨bext,fun h=>by rw[h]⟩
theorem rdO{l:List ByteArray}{i:Nat}{x:ByteArray}(h:l[i]?=some x):rdOf ByteArray.empty l (i:Int)=x:=by
 unfold rdOf;rw[Int.toNat_natCast,List.getD_eq_getElem?_getD,h];rfl
theorem enc_cut{a b:Int}{x y:List Nat}(h:Leb.enc a++x=Leb.enc b++y):a=b∧x=y:=by
 obtain⟨h1,h2⟩:=Leb.leb_prefix h;exact⟨Leb.zig_inj h1,h2⟩
theorem enc_bytes(n:Int):∀b ∈ Leb.enc n,b<256:=fun b hb=>Leb.leb_bytes _ b hb
theorem nat_inj{s t:ByteArray}(h:nat s=nat t):s=t:=by
 refine bext ?_;have:=congrArg u8s h
 rwa [u8_nat,u8_nat] at this
theorem content_nat(st n:Int)(root:ByteArray):nat (Qbb st n root)=Leb.enc st++(Leb.enc n++nat root):=by
 unfold Qbb;rw[WireSpec.nat_append];have:nat (str (encL [st,n]))=encL [st,n]:=nat_str _ (by
  intro b hb;simp only[encL,List.map_cons,List.map_nil,List.flatten_cons,List.flatten_nil,List.append_nil,List.mem_append] at hb;rcases hb with h |h
  ·exact enc_bytes _ b h
  ·exact enc_bytes _ b h)
 rw[this];simp[encL]
theorem content_inj{st n st' n':Int}{r r':ByteArray}(h:Qbb st n r=Qbb st' n' r'):st=st'∧n=n'∧r=r':=by
 have h:=congrArg nat h;rw[content_nat,content_nat] at h;obtain⟨h1,h⟩:=enc_cut h;obtain⟨h2,h⟩:=enc_cut h;exact⟨h1,h2,nat_inj h⟩
theorem app_inj{x a b:ByteArray}(h:x++a=x++b):a=b:=by
 have:=congrArg (fun s:ByteArray=>s.data.toList) h;simp only[ByteArray.data_append,Array.toList_append] at this;exact bext (List.append_cancel_left this)
theorem app_inj2{a b c d:ByteArray}(hs:a.size=c.size)(h:a++b=c++d):a=c∧b=d:=by
 have:=congrArg (fun s:ByteArray=>s.data.toList) h;simp only[ByteArray.data_append,Array.toList_append] at this;obtain⟨h1,h2⟩:=List.append_inj this (by rw[Array.length_toList,Array.length_toList];exact hs);exact⟨bext h1,bext h2⟩
def Hit(a b:List ByteArray)(i j:Nat):Prop:=∃x y,a[i]?=some x∧b[j]?=some y∧x≠y∧Ext.hash x=Ext.hash y
theorem wn(n:Nat)(h:n<=1000000):wrap64 ((n:Int)+1)=((n+1:Nat):Int):=by rw[w64' (by omega) (by omega)];omega
theorem col_l2(a b:List ByteArray)(ha:a.length<=100000)(hb:b.length<=100000)(i:Nat)(x:ByteArray)(hx:a[i]?=some x)(K:Nat):
  ∀(d j k:Nat),d=b.length - j->j<=b.length->((∃j',j<=j'∧Hit a b i j')∨∀k',K<=k'->Qan.l1 k' a b (b.map Ext.hash) ((i+1:Nat):Int)=some true)->K+d+1<=k->
   Qan.l2 k a b (b.map Ext.hash) (i:Int) (Ext.hash x) (j:Int)=some true:=by
 have hia:i<a.length:=(List.getElem?_eq_some_iff.1 hx).1;have hw:=wn i (by omega);intro d
 induction d with
 |zero=>
  intro j k hd hj h hk;have HH:=Lib.hid h;clear h;obtain⟨k,rfl⟩:∃q,k=q+1:=⟨k - 1,by omega⟩
  have hjb:j=b.length:=by omega
  rcases HH.out with ⟨j',hj',x',y',_,hy',_⟩ |h
  ·have:=(List.getElem?_eq_some_iff.1 hy').1;omega
  ·rw[Qan.l2,if_neg (by omega),hw];exact h k (by omega)
 |succ d ih=>
  intro j k hd hj h hk;have HH:=Lib.hid h;clear h;obtain⟨k,rfl⟩:∃q,k=q+1:=⟨k - 1,by omega⟩
  have hjb:j<b.length:=by omega
  have hwj:=wn j (by omega);have c1:(j:Int)<(b.length:Int):=by omega
  have c2:(i:Int)<(a.length:Int):=by omega
  have c3:(j:Int)<((b.map Ext.hash).length:Int):=by rw[List.length_map];exact c1
  have ey:b[j]?=some b[j]:=List.getElem?_eq_getElem hjb;have ez:(b.map Ext.hash)[j]?=some (Ext.hash b[j]):=by rw[List.getElem?_map,ey];rfl
  have o1:d=b.length - (j+1):=by omega
  have o2:K+d+1<=k:=by omega
  have hI:=fun h'=>ih (j+1) k o1 hjb h' o2
  rw[Qan.l2,if_pos c1,if_pos (Int.natCast_nonneg i),if_pos c2,if_pos (Int.natCast_nonneg j),rdO hx,rdO ey,if_pos c3,rdO ez,hwj];have hnext:¬Hit a b i j->Qan.l2 k a b (b.map Ext.hash) (i:Int) (Ext.hash x) ((j+1:Nat):Int)=some true:=fun hn=>hI (by
   rcases HH.out with ⟨j',hj',hh⟩ |h
   ·refine .inl ⟨j',?_,hh⟩;rcases Nat.lt_or_ge j j' with h1 |h1
    ·exact h1
    ·obtain rfl:j=j':=Nat.le_antisymm hj' h1;exact absurd hh hn
   ·exact .inr h)
  by_cases e1:x=b[j]
  ·rw[if_pos (tl_inj.2 e1)];exact hnext fun⟨x',y',hx',hy',hne,_⟩=>hne (by rw[hx] at hx';rw[ey] at hy';injection hx' with hx';injection hy' with hy';rw[<-hx', <-hy'];exact e1)
  ·rw[if_neg (fun h=>e1 (tl_inj.1 h))]
   by_cases e2:Ext.hash x=Ext.hash b[j]
   ·rw[if_pos (tl_inj.2 e2)]
   ·rw[if_neg (fun h=>e2 (tl_inj.1 h))];exact hnext fun⟨x',y',hx',hy',_,hh⟩=>e2 (by rw[hx] at hx';rw[ey] at hy';injection hx' with hx';injection hy' with hy';rw[hx',hy'];exact hh)
theorem refSum_ok{x:ByteArray}(h:x.size<=100000):Qaq.f x=some (Ext.hash x):=if_pos h
theorem col_l1(a b:List ByteArray)(ha:a.length<=100000)(hb:b.length<=100000)(hsa:∀x ∈ a,x.size<=100000):
  ∀(d i k:Nat),d=a.length - i->i<=a.length->(∃i' j',i<=i'∧Hit a b i' j')->d*(b.length+2)+1<=k->
   Qan.l1 k a b (b.map Ext.hash) (i:Int)=some true:=by
 intro d
 induction d with
 |zero=>
  intro i k hd hi ⟨i',j',hi',x,y,hx,_⟩ hk;have:=(List.getElem?_eq_some_iff.1 hx).1;omega
 |succ d ih=>
  intro i k hd hi ⟨i',j',hi',hh⟩ hk;have HH:=Lib.hid hh;clear hh;obtain⟨k,rfl⟩:∃q,k=q+1:=⟨k - 1,by omega⟩
  have hia:i<a.length:=by omega
  have ex:a[i]?=some a[i]:=List.getElem?_eq_getElem hia;have c1:(i:Int)<(a.length:Int):=by omega
  rw[Nat.add_mul,Nat.one_mul] at hk;rw[Qan.l1,if_pos c1,if_pos (Int.natCast_nonneg i),rdO ex,refSum_ok (hsa _ (List.getElem_mem hia)),Option.bind_some];refine col_l2 a b ha hb i _ ex (d*(b.length+2)+1) b.length 0 k (by omega) (by omega) ?_ (by omega);rcases Nat.lt_or_ge i i' with h1 |h1
  ·exact .inr fun k' hk'=>ih (i+1) k' (by omega) (by omega) ⟨i',j',h1,HH.out⟩ hk'
  ·obtain rfl:i=i':=Nat.le_antisymm hi' h1;exact .inl ⟨j',by omega,HH.out⟩
theorem col_l0(a b:List ByteArray)(hb:b.length<=100000)(hsb:∀x ∈ b,x.size<=100000)(K:Nat)(h:∀k,K<=k->Qan.l1 k a b (b.map Ext.hash) 0=some true):
  ∀(d i k:Nat),d=b.length - i->i<=b.length->K+d+1<=k->Qan.l0 k a b ((b.take i).map Ext.hash) (i:Int)=some true:=by
 intro d
 induction d with
 |zero=>
  intro i k hd hi hk;obtain⟨k,rfl⟩:∃q,k=q+1:=⟨k - 1,by omega⟩
  rw[Qan.l0,if_neg (by omega),List.take_of_length_le (by omega)];exact h k (by omega)
 |succ d ih=>
  intro i k hd hi hk;obtain⟨k,rfl⟩:∃q,k=q+1:=⟨k - 1,by omega⟩
  have hib:i<b.length:=by omega
  have ey:b[i]?=some b[i]:=List.getElem?_eq_getElem hib;have c1:(i:Int)<(b.length:Int):=by omega
  have c2:((b.take i).map Ext.hash).length<8796093022208:=by rw[List.length_map,List.length_take];omega
  have hI:=ih (i+1) k (by omega) (by omega) (by omega);rw[List.take_add_one,ey,List.map_append] at hI;rw[Qan.l0,if_pos c1,if_pos (Int.natCast_nonneg i),rdO ey,refSum_ok (hsb _ (List.getElem_mem hib)),Option.bind_some,if_pos c2,wn i (by omega)];exact hI
theorem collided_is{a b:List ByteArray}(ha:a.length<=1000)(hb:b.length<=1000)(hsa:∀x ∈ a,x.size<=100000)(hsb:∀x ∈ b,x.size<=100000){i j:Nat}(h:Hit a b i j)(k:Nat)(hk:a.length*(b.length+2)+b.length+2<=k):
  Qan.f k a b=some true:=
 col_l0 a b (by omega) hsb (a.length*(b.length+2)+1) (fun k hk=>col_l1 a b (by omega) (by omega) hsa a.length 0 k (by omega) (by omega) ⟨i,j,by omega,h⟩ hk) b.length 0 k (by omega) (by omega) (by omega)
end Go.Proofs.YtfdlmpicmkpabaaDoor.LbSpec
end
section
namespace Go.Proofs.YtfdlmpicmkpabaaDoor.PL
open Go.Proofs.YtfdlmpicmkpabaaDoor.Ext
attribute [local go_sem] Qbg Qb3
open Go.RowKit Go.Proofs.YtfdlmpicmkpabaaDoorW.PrintWords Go.Proofs.YtfdlmpicmkpabaaDoorW.PrintLast Go.Proofs.YtfdlmpicmkpabaaDoorW.PrintMore
attribute [local go_sem] Qbs Qbv Qb9 Qb8 Qbk Qbl Qbt Qbw -- for this text's walks alone
def Qcd.f(a0:Int)(a1:Int):Option (Int):=if a0<0 then (if a1=0 then (none) else (some (Int.tmod (wrap64 (-(wrap64 (a0+1)))) a1))) else (if a1=0 then (none) else (some (Int.tmod a0 a1)))
set_option maxHeartbeats 8000000 in
set_option maxRecDepth 100000 in
theorem Qcd.calls(a0:Int)(a1:Int)(r:Int)(w:World)(h:Qcd.f a0 a1=some r):
  Calls Tryd.prog 16 #[.int .i64 a0,.int .i64 a1] w fun e w'=>e=.returned (.int .i64 r)∧Qbi w w':=by
 have H:(if a0<0 then (if a1=0 then (none) else (some (Int.tmod (wrap64 (-(wrap64 (a0+1)))) a1))) else (if a1=0 then (none) else (some (Int.tmod a0 a1))))=some r:=h;clear h
 by_cases c3:a0<0
 ·rw[if_pos c3] at H;have c3b0:decide (a0<0)=true:=decide_eq_true c3;clear c3
  by_cases c4:a1=0
  ·rw[if_pos c4] at H;exact absurd H (by simp)
  ·rw[if_neg c4] at H;have c4b0:(a1==0)=false:=beq_eq_false_iff_ne.mpr c4;have c4b1:(a1 !=0)=true:=bne_iff_ne.mpr c4;obtain rfl:=Option.some.inj H
   go_enter Tryd.func16,Tryd.ntmps16
   go_wp2
   go_ret
   exact⟨by first |rfl |(simp;done) |(simp[*];done),by repeat (first |exact Qbi.refl _ |apply Qbi.step)⟩
 ·rw[if_neg c3] at H;have c3b0:decide (a0<0)=false:=decide_eq_false c3;clear c3
  by_cases c5:a1=0
  ·rw[if_pos c5] at H;exact absurd H (by simp)
  ·rw[if_neg c5] at H;have c5b0:(a1==0)=false:=beq_eq_false_iff_ne.mpr c5;have c5b1:(a1 !=0)=true:=bne_iff_ne.mpr c5;obtain rfl:=Option.some.inj H
   go_enter Tryd.func16,Tryd.ntmps16
   go_wp2
   go_ret
   exact⟨by first |rfl |(simp;done) |(simp[*];done),by repeat (first |exact Qbi.refl _ |apply Qbi.step)⟩
end Go.Proofs.YtfdlmpicmkpabaaDoor.PL
end
