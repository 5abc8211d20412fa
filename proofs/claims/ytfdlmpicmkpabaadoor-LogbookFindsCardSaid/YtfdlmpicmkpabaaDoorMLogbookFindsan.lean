import Derived.Test.YtfdlmpicmkpabaaDoorMLogbookFindsag
import Derived.Test.YtfdlmpicmkpabaaDoorMLogbookFindsam
/-
  Texts of this claim, one behind the other: what they prove stands above each.
-/
section
namespace Go.Proofs.YtfdlmpicmkpabaaDoor.PB
open Go.Proofs.YtfdlmpicmkpabaaDoor.Ext
attribute [local go_sem] u32_signed u32_max
open Go.RowKit Go.Proofs.YtfdlmpicmkpabaaDoorW.PrintWords Go.Proofs.YtfdlmpicmkpabaaDoorW.PrintLast Go.Proofs.YtfdlmpicmkpabaaDoorW.PrintMore
attribute [local go_sem] max2_int min2_int max_two min_two max_three min_three max_four min_four -- for this text's walks alone
set_option linter.unusedVariables false
set_option linter.unusedSimpArgs false
mutual
def aircheckref02_block.l0:Nat->List Int->List Int->List Int->Int->Option (List Int)
 |0,_,_,_,_=>none
 |k+1,x0,x1,x5,x6=>if x6<16 then (if 0<=(wrap64 (4*x6)) then (if (wrap64 (4*x6))<(x1.length:Int) then (if 0<=(wrap64 ((wrap64 (4*x6))+1)) then (if (wrap64 ((wrap64 (4*x6))+1))<(x1.length:Int) then (if 0<=(wrap64 ((wrap64 (4*x6))+2)) then (if (wrap64 ((wrap64 (4*x6))+2))<(x1.length:Int) then (if 0<=(wrap64 ((wrap64 (4*x6))+3)) then (if (wrap64 ((wrap64 (4*x6))+3))<(x1.length:Int) then (if x5.length<35184372088832 then (aircheckref02_block.l0 k x0 x1 (x5++[Go.bits .or .u32 (Go.bits .or .u32 (Go.bits .or .u32 ((((rd x1 (wrap64 (4*x6)))%4294967296)*16777216)%4294967296) ((((rd x1 (wrap64 ((wrap64 (4*x6))+1)))%4294967296)*65536)%4294967296)) ((((rd x1 (wrap64 ((wrap64 (4*x6))+2)))%4294967296)*256)%4294967296)) ((rd x1 (wrap64 ((wrap64 (4*x6))+3)))%4294967296)]) (wrap64 (x6+1))) else (none)) else (none)) else (none)) else (none)) else (none)) else (none)) else (none)) else (none)) else (none)) else (aircheckref02_block.l1 k x0 x5 16)
def aircheckref02_block.l1:Nat->List Int->List Int->Int->Option (List Int)
 |0,_,_,_=>none
 |k+1,x0,x5,x7=>if x7<64 then (if 0<=(wrap64 (x7 - 15)) then (if (wrap64 (x7 - 15))<(x5.length:Int) then ((aircheckref02_rotated.f (rd x5 (wrap64 (x7 - 15))) 7).bind fun t131=>((aircheckref02_rotated.f (rd x5 (wrap64 (x7 - 15))) 18).bind fun t133=>(if 0<=(wrap64 (x7 - 2)) then (if (wrap64 (x7 - 2))<(x5.length:Int) then ((aircheckref02_rotated.f (rd x5 (wrap64 (x7 - 2))) 17).bind fun t136=>((aircheckref02_rotated.f (rd x5 (wrap64 (x7 - 2))) 19).bind fun t138=>(if 0<=(wrap64 (x7 - 16)) then (if (wrap64 (x7 - 16))<(x5.length:Int) then (if 0<=(wrap64 (x7 - 7)) then (if (wrap64 (x7 - 7))<(x5.length:Int) then (if x5.length<35184372088832 then (aircheckref02_block.l1 k x0 (x5++[((((((rd x5 (wrap64 (x7 - 16)))+(Go.bits .xor .u32 (Go.bits .xor .u32 t131 t133) ((rd x5 (wrap64 (x7 - 15))) / 8)))%4294967296)+(rd x5 (wrap64 (x7 - 7))))%4294967296)+(Go.bits .xor .u32 (Go.bits .xor .u32 t136 t138) ((rd x5 (wrap64 (x7 - 2))) / 1024)))%4294967296]) (wrap64 (x7+1))) else (none)) else (none)) else (none)) else (none)) else (none)))) else (none)) else (none)))) else (none)) else (none)) else ((aircheckref02_constants.f).bind fun t145=>(if ([]:List Int).length+x0.length<35184372088832 then (aircheckref02_block.l2 k x0 x5 t145 (([]:List Int)++x0) 0) else (none)))
def aircheckref02_block.l2:Nat->List Int->List Int->List Int->List Int->Int->Option (List Int)
 |0,_,_,_,_,_=>none
 |k+1,x0,x5,x10,x11,x12=>if x12<64 then (if 0<(x11.length:Int) then (if 4<(x11.length:Int) then (if 7<(x11.length:Int) then ((aircheckref02_rotated.f (rd x11 4) 6).bind fun t154=>((aircheckref02_rotated.f (rd x11 4) 11).bind fun t155=>((aircheckref02_rotated.f (rd x11 4) 25).bind fun t156=>(if 5<(x11.length:Int) then (if 6<(x11.length:Int) then (if 0<=x12 then (if x12<(x10.length:Int) then (if x12<(x5.length:Int) then ((aircheckref02_rotated.f (rd x11 0) 2).bind fun t161=>((aircheckref02_rotated.f (rd x11 0) 13).bind fun t162=>((aircheckref02_rotated.f (rd x11 0) 22).bind fun t163=>(if 1<(x11.length:Int) then (if 2<(x11.length:Int) then (if 3<(x11.length:Int) then (aircheckref02_block.l2 k x0 x5 x10 (([((((((((((rd x11 7)+(Go.bits .xor .u32 (Go.bits .xor .u32 t154 t155) t156))%4294967296)+(Go.bits .xor .u32 (Go.bits .and .u32 (rd x11 4) (rd x11 5)) (Go.bits .and .u32 (Go.bits .xor .u32 4294967295 (rd x11 4)) (rd x11 6))))%4294967296)+(rd x10 x12))%4294967296)+(rd x5 x12))%4294967296)+(((Go.bits .xor .u32 (Go.bits .xor .u32 t161 t162) t163)+(Go.bits .xor .u32 (Go.bits .xor .u32 (Go.bits .and .u32 (rd x11 0) (rd x11 1)) (Go.bits .and .u32 (rd x11 0) (rd x11 2))) (Go.bits .and .u32 (rd x11 1) (rd x11 2))))%4294967296))%4294967296,rd x11 0,rd x11 1,rd x11 2,((rd x11 3)+(((((((((rd x11 7)+(Go.bits .xor .u32 (Go.bits .xor .u32 t154 t155) t156))%4294967296)+(Go.bits .xor .u32 (Go.bits .and .u32 (rd x11 4) (rd x11 5)) (Go.bits .and .u32 (Go.bits .xor .u32 4294967295 (rd x11 4)) (rd x11 6))))%4294967296)+(rd x10 x12))%4294967296)+(rd x5 x12))%4294967296))%4294967296,rd x11 4,rd x11 5,rd x11 6]:List Int)) (wrap64 (x12+1))) else (none)) else (none)) else (none))))) else (none)) else (none)) else (none)) else (none)) else (none))))) else (none)) else (none)) else (none)) else (aircheckref02_block.l3 k x0 x11 ([]:List Int) 0)
def aircheckref02_block.l3:Nat->List Int->List Int->List Int->Int->Option (List Int)
 |0,_,_,_,_=>none
 |k+1,x0,x11,x17,x18=>if x18<8 then (if 0<=x18 then (if x18<(x0.length:Int) then (if x18<(x11.length:Int) then (if x17.length<35184372088832 then (aircheckref02_block.l3 k x0 x11 (x17++[((rd x0 x18)+(rd x11 x18))%4294967296]) (wrap64 (x18+1))) else (none)) else (none)) else (none)) else (none)) else (some x17)
end
def aircheckref02_block.f(k:Nat)(l0:List Int)(l1:List Int):Option (List Int):=aircheckref02_block.l0 k l0 l1 ([]:List Int) 0
def aircheckref02_block.T5:Bool × List (List Nat × List Nat):=(true,[([],[]),([],[]),([],[]),([2],[2]),([1,3],[1,3]),([4],[4]),([5],[5]),([6],[6]),([],[]),([],[]),([9],[9]),([10],[10]),([8,11],[8,11]),([12],[12]),([13],[13]),([14],[14]),([7,15],[7,15]),([],[]),([],[]),([18],[18]),([19],[19]),([17,20],[17,20]),([21],[21]),([22],[22]),([23],[23]),([16,24],[16,24]),([],[]),([],[]),([27],[27]),([28],[28]),([26,29],[26,29]),([30],[30]),([31],[31]),([25,32],[25,32]),([33],[33]),([0,34],[0,34]),([35,35,0,1,2,3,4,5,6,7,8,9,10,11,12,13,14,15,16,17,18,19,20,21,22,23,24,25,26,27,28,29,30,31,32,33,34,35],[0,35])])
def aircheckref02_block.B5:List Nat:=[0,0,0,4,14,30,62,126,0,0,512,1536,3840,7936,16128,32512,65534,0,0,262144,786432,1966080,4063232,8257536,16646144,33554430,0,0,134217728,402653184,1006632960,2080374784,4227858432,8589934590,17179869182,34359738367,68719476735]
theorem aircheckref02_block.tab5:rtab .any (opsOf Tryd.f76 5)=aircheckref02_block.T5:=by kernel_rfl
theorem aircheckref02_block.bits5:waitsOk aircheckref02_block.T5.2 aircheckref02_block.B5=true:=by kernel_rfl
def aircheckref02_block.T9:Bool × List (List Nat × List Nat):=(true,[([],[]),([],[]),([1],[1]),([0,2],[0,2]),([3],[3]),([4],[4]),([],[]),([],[]),([7],[7]),([6,8],[6,8]),([9],[9]),([10,5],[10]),([5,11],[5,11]),([],[]),([],[]),([14],[14]),([13,15],[13,15]),([16],[16]),([17],[17]),([12,18],[12,18]),([19,11,0,1,2,3,4,5,6,7,8,9,10,11,12,13,14,15,16,17,18,19],[19])])
def aircheckref02_block.B9:List Nat:=[0,0,2,7,15,31,0,0,128,448,960,2047,4095,0,0,16384,57344,122880,253952,524287,1048575]
theorem aircheckref02_block.tab9:rtab .any (opsOf Tryd.f76 9)=aircheckref02_block.T9:=by kernel_rfl
theorem aircheckref02_block.bits9:waitsOk aircheckref02_block.T9.2 aircheckref02_block.B9=true:=by kernel_rfl
def aircheckref02_block.T10:Bool × List (List Nat × List Nat):=(true,[([],[]),([],[]),([1],[1]),([0,2],[0,2]),([3],[3]),([4],[4]),([],[]),([],[]),([7],[7]),([6,8],[6,8]),([9],[9]),([10,5],[10]),([5,11],[5,11]),([],[]),([],[]),([14],[14]),([13,15],[13,15]),([16],[16]),([17],[17]),([12,18],[12,18]),([19,11,0,1,2,3,4,5,6,7,8,9,10,11,12,13,14,15,16,17,18,19],[19])])
def aircheckref02_block.B10:List Nat:=[0,0,2,7,15,31,0,0,128,448,960,2047,4095,0,0,16384,57344,122880,253952,524287,1048575]
theorem aircheckref02_block.tab10:rtab .any (opsOf Tryd.f76 10)=aircheckref02_block.T10:=by kernel_rfl
theorem aircheckref02_block.bits10:waitsOk aircheckref02_block.T10.2 aircheckref02_block.B10=true:=by kernel_rfl
def aircheckref02_block.T11:Bool × List (List Nat × List Nat):=(true,[([],[]),([],[]),([],[]),([2],[2]),([1,3],[1,3]),([4],[4]),([],[]),([5,6],[5,6]),([],[]),([],[]),([9],[9]),([8,10],[8,10]),([11],[11]),([7,12],[7,12]),([],[]),([13,14],[13,14]),([15],[15]),([0,16],[0,16]),([17,17,0,1,2,3,4,5,6,7,8,9,10,11,12,13,14,15,16,17],[0,1,8,17])])
def aircheckref02_block.B11:List Nat:=[0,0,0,4,14,30,0,126,0,0,512,1792,3840,8190,0,32766,65534,131071,262143]
theorem aircheckref02_block.tab11:rtab .any (opsOf Tryd.f76 11)=aircheckref02_block.T11:=by kernel_rfl
theorem aircheckref02_block.bits11:waitsOk aircheckref02_block.T11.2 aircheckref02_block.B11=true:=by kernel_rfl
def aircheckref02_block.T20:Bool × List (List Nat × List Nat):=(true,[([],[]),([0],[0]),([1],[1]),([],[]),([3],[3]),([],[]),([5,4],[5]),([4,6],[4,6]),([],[]),([8,6],[8]),([7,9],[7,9]),([2,10],[2,10]),([],[]),([],[]),([13],[13]),([14],[14]),([12,15],[12,15]),([],[]),([17],[17]),([],[]),([19],[19]),([20],[20]),([18,21],[18,21]),([16,22],[16,22]),([11,23],[11,23]),([],[]),([],[]),([25,26],[25,26]),([27],[27]),([24,28],[24,28]),([],[]),([],[]),([30,31],[30,31]),([32],[32]),([29,33],[29,33]),([34,9,0,1,2,3,4,5,6,7,8,9,10,11,12,13,14,15,16,17,18,19,20,21,22,23,24,25,26,27,28,29,30,31,32,33,34],[34])])
def aircheckref02_block.B20:List Nat:=[0,1,3,0,8,0,56,120,0,376,1016,2047,0,0,8192,24576,61440,0,131072,0,524288,1572864,4063232,8384512,16777215,0,0,100663296,234881024,536870911,0,0,3221225472,7516192768,17179869183,34359738367]
theorem aircheckref02_block.tab20:rtab .any (opsOf Tryd.f76 20)=aircheckref02_block.T20:=by kernel_rfl
theorem aircheckref02_block.bits20:waitsOk aircheckref02_block.T20.2 aircheckref02_block.B20=true:=by kernel_rfl
def aircheckref02_block.T21:Bool × List (List Nat × List Nat):=(true,[([],[]),([0],[0]),([],[]),([2,1],[2]),([1,3],[1,3]),([],[]),([5,3],[5]),([4,6],[4,6]),([],[]),([],[]),([9],[9]),([10],[10]),([8,11],[8,11]),([],[]),([],[]),([14],[14]),([15],[15]),([13,16],[13,16]),([12,17],[12,17]),([],[]),([19],[19]),([20],[20]),([],[]),([22],[22]),([23],[23]),([21,24],[21,24]),([18,25],[18,25]),([7,26],[7,26]),([27,6,0,1,2,3,4,5,6,7,8,9,10,11,12,13,14,15,16,17,18,19,20,21,22,23,24,25,26,27],[27])])
def aircheckref02_block.B21:List Nat:=[0,1,0,7,15,0,47,127,0,0,512,1536,3840,0,0,16384,49152,122880,261888,0,524288,1572864,0,4194304,12582912,33030144,67108608,134217727,268435455]
theorem aircheckref02_block.tab21:rtab .any (opsOf Tryd.f76 21)=aircheckref02_block.T21:=by kernel_rfl
theorem aircheckref02_block.bits21:waitsOk aircheckref02_block.T21.2 aircheckref02_block.B21=true:=by kernel_rfl
def aircheckref02_block.T22:Bool × List (List Nat × List Nat):=(true,[([],[]),([],[]),([0,1],[0,1]),([],[]),([],[]),([4],[4]),([5],[5]),([],[]),([7],[7]),([8],[8]),([],[]),([10],[10]),([11],[11]),([],[]),([12,13],[12,13]),([],[]),([],[]),([16],[16]),([17],[17]),([],[]),([19],[19]),([20],[20]),([2,3,6,9,14,15,18,21],[2,3,6,9,14,15,18,21]),([22,0,1,2,3,4,5,6,7,8,9,10,11,12,13,14,15,16,17,18,19,20,21,22],[4,7,10,16,19,22])])
def aircheckref02_block.B22:List Nat:=[0,0,3,0,0,16,48,0,128,384,0,1024,3072,0,15360,0,0,65536,196608,0,524288,1572864,4194303,8388607]
theorem aircheckref02_block.tab22:rtab .any (opsOf Tryd.f76 22)=aircheckref02_block.T22:=by kernel_rfl
theorem aircheckref02_block.bits22:waitsOk aircheckref02_block.T22.2 aircheckref02_block.B22=true:=by kernel_rfl
def aircheckref02_block.T27:Bool × List (List Nat × List Nat):=(true,[([],[]),([],[]),([],[]),([1,2],[1,2]),([3],[3]),([],[]),([],[]),([5,6],[5,6]),([7],[7]),([4,8],[4,8]),([9],[9]),([0,10],[0,10]),([11,11,0,1,2,3,4,5,6,7,8,9,10,11],[0,11])])
def aircheckref02_block.B27:List Nat:=[0,0,0,6,14,0,0,96,224,510,1022,2047,4095]
theorem aircheckref02_block.tab27:rtab .any (opsOf Tryd.f76 27)=aircheckref02_block.T27:=by kernel_rfl
theorem aircheckref02_block.bits27:waitsOk aircheckref02_block.T27.2 aircheckref02_block.B27=true:=by kernel_rfl
set_option maxHeartbeats 8000000 in
set_option maxRecDepth 100000 in
theorem aircheckref02_block.calls(k:Nat)(A0:Option Addr)(c0:Nat)(l0:List Int)(A1:Option Addr)(c1:Nat)(l1:List Int)(r:List Int)(w:World)(hr0:Kd.C (Kd.int .u32) w A0 l0.length l0)(hc0:l0.length<=c0)(hr1:Kd.C (Kd.int .u8) w A1 l1.length l1)(hc1:l1.length<=c1)(h:aircheckref02_block.f k l0 l1=some r):
  Calls Tryd.prog 76 #[.slice A0 l0.length c0,.slice A1 l1.length c1] w fun e w'=>∃v0_:Value,e=.returned (v0_)∧Kd.R (Kd.int .u32) 117 w' w.heap.size (fun _=>True) v0_ r∧Below w.heap.size w w':=by
 have HR0:=Aside0.mk hr0;have HC0:=Aside0.mk hc0;clear hr0 hc0;have HR1:=Aside0.mk hr1;have HC1:=Aside0.mk hc1;clear hr1 hc1;have HB:=Aside0.mk (Below.refl w.heap.size w);have H:(aircheckref02_block.l0 k l0 l1 ([]:List Int) 0)=some r:=h;clear h;have H':=Aside0.mk H;clear H
 go_enter Tryd.func76,Tryd.ntmps76
 go_wp2
 go_loopg [5,6] k (fun kq v5 v6 w'=>∃(x5_1:List Int) (x6_1:Int),v6=.int .i64 x6_1∧Aside0 (aircheckref02_block.l0 kq l0 l1 x5_1 x6_1=some r)∧Aside0 (kq<=k)∧Aside0 (Kd.R (Kd.int .u32) 117 w' w.heap.size (fun _=>True) v5 x5_1)∧Aside0 (Below w.heap.size w w'))
 case atStart=>exact⟨(([]:List Int)),(0),(by first |rfl |(simp;done) |(simp[*];done)),H',⟨Nat.le_refl _⟩,⟨by first |exact Kd.R_nil _ _ _ _ _ |exact Kd.N_nil _ _ _ _ _ |exact Kd.V_nil _ _ _ _ _ |exact Kd.Q_nil _ _ _ _ _ |exact Kd.S_nil _ _ _ _ _⟩,⟨by repeat (first |(with_reducible first |exact HB.out |apply below_alloc |apply pw_below_drewN |apply below_drew1) |exact HB.out)⟩⟩
 case round=>
  clear H'
  try clear c1
  try clear p2
  obtain⟨x5_1,x6_1,rfl,HA,HK1,HO_5,HB⟩:=hrel
  cases gk with
  |zero=>exact absurd HA.out (by simp[aircheckref02_block.l0])
  |succ k1=>
   have H:=HA.out;clear HA;simp only[aircheckref02_block.l0] at H
   by_cases c3:x6_1<16
   ·rw[if_pos c3] at H;have c3b0:decide (x6_1<16)=true:=decide_eq_true c3;clear c3;obtain⟨ji4,hji4⟩:∃j_:Int,(wrap64 (4*x6_1))=j_:=⟨_,rfl⟩
    replace H:(if 0<=(ji4) then (if (ji4)<(l1.length:Int) then (if 0<=(wrap64 ((ji4)+1)) then (if (wrap64 ((ji4)+1))<(l1.length:Int) then (if 0<=(wrap64 ((ji4)+2)) then (if (wrap64 ((ji4)+2))<(l1.length:Int) then (if 0<=(wrap64 ((ji4)+3)) then (if (wrap64 ((ji4)+3))<(l1.length:Int) then (if x5_1.length<35184372088832 then (aircheckref02_block.l0 k1 l0 l1 (x5_1++[Go.bits .or .u32 (Go.bits .or .u32 (Go.bits .or .u32 ((((rd l1 (ji4))%4294967296)*16777216)%4294967296) ((((rd l1 (wrap64 ((ji4)+1)))%4294967296)*65536)%4294967296)) ((((rd l1 (wrap64 ((ji4)+2)))%4294967296)*256)%4294967296)) ((rd l1 (wrap64 ((ji4)+3)))%4294967296)]) (wrap64 (x6_1+1))) else (none)) else (none)) else (none)) else (none)) else (none)) else (none)) else (none)) else (none)) else (none))=some r:=by first |(rw[hji4] at H;exact H) |(simp only[hji4] at H ⊢;exact H)
    have hji4w:(IntKind.i64.wrap (4*x6_1))=ji4:=(i64_w _).trans hji4
    by_cases c5:0<=(ji4)
    ·rw[if_pos c5] at H;have c5b0:decide (0<=(ji4))=true:=decide_eq_true c5;clear c5
     by_cases c6:(ji4)<(l1.length:Int)
     ·rw[if_pos c6] at H;have c6b0:decide ((ji4)<(l1.length:Int))=true:=decide_eq_true c6;clear c6;obtain⟨ji7,hji7⟩:∃j_:Int,(wrap64 ((ji4)+1))=j_:=⟨_,rfl⟩
      replace H:(if 0<=(ji7) then (if (ji7)<(l1.length:Int) then (if 0<=(wrap64 ((ji4)+2)) then (if (wrap64 ((ji4)+2))<(l1.length:Int) then (if 0<=(wrap64 ((ji4)+3)) then (if (wrap64 ((ji4)+3))<(l1.length:Int) then (if x5_1.length<35184372088832 then (aircheckref02_block.l0 k1 l0 l1 (x5_1++[Go.bits .or .u32 (Go.bits .or .u32 (Go.bits .or .u32 ((((rd l1 (ji4))%4294967296)*16777216)%4294967296) ((((rd l1 (ji7))%4294967296)*65536)%4294967296)) ((((rd l1 (wrap64 ((ji4)+2)))%4294967296)*256)%4294967296)) ((rd l1 (wrap64 ((ji4)+3)))%4294967296)]) (wrap64 (x6_1+1))) else (none)) else (none)) else (none)) else (none)) else (none)) else (none)) else (none))=some r:=by first |(rw[hji7] at H;exact H) |(simp only[hji7] at H ⊢;exact H)
      have hji7w:(IntKind.i64.wrap ((ji4)+1))=ji7:=(i64_w _).trans hji7
      by_cases c8:0<=(ji7)
      ·rw[if_pos c8] at H;have c8b0:decide (0<=(ji7))=true:=decide_eq_true c8;clear c8
       by_cases c9:(ji7)<(l1.length:Int)
       ·rw[if_pos c9] at H;have c9b0:decide ((ji7)<(l1.length:Int))=true:=decide_eq_true c9;clear c9;obtain⟨ji10,hji10⟩:∃j_:Int,(wrap64 ((ji4)+2))=j_:=⟨_,rfl⟩
        replace H:(if 0<=(ji10) then (if (ji10)<(l1.length:Int) then (if 0<=(wrap64 ((ji4)+3)) then (if (wrap64 ((ji4)+3))<(l1.length:Int) then (if x5_1.length<35184372088832 then (aircheckref02_block.l0 k1 l0 l1 (x5_1++[Go.bits .or .u32 (Go.bits .or .u32 (Go.bits .or .u32 ((((rd l1 (ji4))%4294967296)*16777216)%4294967296) ((((rd l1 (ji7))%4294967296)*65536)%4294967296)) ((((rd l1 (ji10))%4294967296)*256)%4294967296)) ((rd l1 (wrap64 ((ji4)+3)))%4294967296)]) (wrap64 (x6_1+1))) else (none)) else (none)) else (none)) else (none)) else (none))=some r:=by first |(rw[hji10] at H;exact H) |(simp only[hji10] at H ⊢;exact H)
        have hji10w:(IntKind.i64.wrap ((ji4)+2))=ji10:=(i64_w _).trans hji10
        by_cases c11:0<=(ji10)
        ·rw[if_pos c11] at H;have c11b0:decide (0<=(ji10))=true:=decide_eq_true c11;clear c11
         by_cases c12:(ji10)<(l1.length:Int)
         ·rw[if_pos c12] at H;have c12b0:decide ((ji10)<(l1.length:Int))=true:=decide_eq_true c12;clear c12;obtain⟨ji13,hji13⟩:∃j_:Int,(wrap64 ((ji4)+3))=j_:=⟨_,rfl⟩
          replace H:(if 0<=(ji13) then (if (ji13)<(l1.length:Int) then (if x5_1.length<35184372088832 then (aircheckref02_block.l0 k1 l0 l1 (x5_1++[Go.bits .or .u32 (Go.bits .or .u32 (Go.bits .or .u32 ((((rd l1 (ji4))%4294967296)*16777216)%4294967296) ((((rd l1 (ji7))%4294967296)*65536)%4294967296)) ((((rd l1 (ji10))%4294967296)*256)%4294967296)) ((rd l1 (ji13))%4294967296)]) (wrap64 (x6_1+1))) else (none)) else (none)) else (none))=some r:=by first |(rw[hji13] at H;exact H) |(simp only[hji13] at H ⊢;exact H)
          have hji13w:(IntKind.i64.wrap ((ji4)+3))=ji13:=(i64_w _).trans hji13
          by_cases c14:0<=(ji13)
          ·rw[if_pos c14] at H;have c14b0:decide (0<=(ji13))=true:=decide_eq_true c14;clear c14
           by_cases c15:(ji13)<(l1.length:Int)
           ·rw[if_pos c15] at H;have c15b0:decide ((ji13)<(l1.length:Int))=true:=decide_eq_true c15;clear c15
            by_cases c16:x5_1.length<35184372088832
            ·rw[if_pos c16] at H;have LMc16:=Aside0.mk c16;clear c16;obtain⟨y127,hy127⟩:∃y_:List Int,y_=(x5_1++[Go.bits .or .u32 (Go.bits .or .u32 (Go.bits .or .u32 ((((rd l1 (ji4))%4294967296)*16777216)%4294967296) ((((rd l1 (ji7))%4294967296)*65536)%4294967296)) ((((rd l1 (ji10))%4294967296)*256)%4294967296)) ((rd l1 (ji13))%4294967296)]):=⟨_,rfl⟩
             replace H:(aircheckref02_block.l0 k1 l0 l1 y127 (wrap64 (x6_1+1)))=some r:=by first |(rw[hy127];with_reducible exact H) |(have H2_:=(Option.bind_some _ _).symm.trans H;rw[hy127];with_reducible exact H2_) |(have H2_:=(Option.bind_some _ _).symm.trans H;with_reducible exact H2_) |with_reducible exact H |(rw[hy127];exact H) |exact H
             have Ny127:=Aside0.mk hy127;clear hy127;have H':=Aside0.mk H;clear H
             try go_wp2
             have n0_:=Aside0.mk (Kd.R_drew HO_5.out);have n1_:=Aside0.mk (below_drew1 HB.out);clear HO_5;clear HB;have HO_5:=n0_;have HB:=n1_;clear n0_ n1_;have p123:0<=((ji4):Int):=of_decide_eq_true (by first |(with_reducible assumption) |assumption);have q123:(ji4)<(l1.length:Int):=of_decide_eq_true (by first |(with_reducible assumption) |assumption);obtain⟨ad123,e123,hx123_0⟩:=Kd.at_int HR1.out (ji4) p123 q123;have hw123_0:=hx123_0
             cases e123
             replace hx123_0:=(HB.out.cell (World.block_lt_of_cell? w _ hx123_0)).trans hx123_0;replace p123:=eq_true p123;replace q123:=eq_true q123;have p124:0<=((ji7):Int):=of_decide_eq_true (by first |(with_reducible assumption) |assumption);have q124:(ji7)<(l1.length:Int):=of_decide_eq_true (by first |(with_reducible assumption) |assumption);obtain⟨ad124,e124,hx124_0⟩:=Kd.at_int HR1.out (ji7) p124 q124;have hw124_0:=hx124_0;obtain rfl:ad123=ad124:=(by injection e124);replace hx124_0:=(HB.out.cell (World.block_lt_of_cell? w _ hx124_0)).trans hx124_0;replace p124:=eq_true p124;replace q124:=eq_true q124;have p125:0<=((ji10):Int):=of_decide_eq_true (by first |(with_reducible assumption) |assumption);have q125:(ji10)<(l1.length:Int):=of_decide_eq_true (by first |(with_reducible assumption) |assumption);obtain⟨ad125,e125,hx125_0⟩:=Kd.at_int HR1.out (ji10) p125 q125;have hw125_0:=hx125_0;obtain rfl:ad123=ad125:=(by injection e125);replace hx125_0:=(HB.out.cell (World.block_lt_of_cell? w _ hx125_0)).trans hx125_0;replace p125:=eq_true p125;replace q125:=eq_true q125;have p126:0<=((ji13):Int):=of_decide_eq_true (by first |(with_reducible assumption) |assumption);have q126:(ji13)<(l1.length:Int):=of_decide_eq_true (by first |(with_reducible assumption) |assumption);obtain⟨ad126,e126,hx126_0⟩:=Kd.at_int HR1.out (ji13) p126 q126;have hw126_0:=hx126_0;obtain rfl:ad123=ad126:=(by injection e126);replace hx126_0:=(HB.out.cell (World.block_lt_of_cell? w _ hx126_0)).trans hx126_0;replace p126:=eq_true p126;replace q126:=eq_true q126;refine start_ (n:=37) (S:=fun w'=>w'.cell? (ad123.add ((ji4)).toNat)=some (.int .u8 (rd l1 (ji4)))∧w'.cell? (ad123.add ((ji7)).toNat)=some (.int .u8 (rd l1 (ji7)))∧w'.cell? (ad123.add ((ji10)).toNat)=some (.int .u8 (rd l1 (ji10)))∧w'.cell? (ad123.add ((ji13)).toNat)=some (.int .u8 (rd l1 (ji13)))) (ds:=[]) (bb 37 0) (by kernel_rfl) rfl rfl ⟨((HB.out.cell (World.block_lt_of_cell? w _ hw123_0)).trans hw123_0),((HB.out.cell (World.block_lt_of_cell? w _ hw124_0)).trans hw124_0),((HB.out.cell (World.block_lt_of_cell? w _ hw125_0)).trans hw125_0),((HB.out.cell (World.block_lt_of_cell? w _ hw126_0)).trans hw126_0)⟩ (fun hHeld=>?_);refine with_tabW aircheckref02_block.tab5 aircheckref02_block.bits5 (fun HT_ HW_=>?_);generalize wr.drew=w17 at HO_5 HB hx123_0 hx124_0 hx125_0 hx126_0 hHeld ⊢;refine run_ [.p 0,.p 1,.p 2,.p 3,.p 4,.p 8,.p 9,.p 10,.p 11,.p 12,.p 17,.p 18,.p 19,.p 20,.p 21,.p 26,.p 27,.p 28,.p 29,.p 30,.t 5,.p 6,.p 7,.t 13,.p 14,.p 15,.p 16,.t 22,.p 23,.p 24,.p 25,.t 31,.p 32,.p 33] ?_
             repeat (first |(refine pk_ (v:=?_) (a':=?_) rfl rfl HT_ (by kernel_rfl) (fun _ _ _ h=>h) (by rfl) ?_ ?_ ?_;rotate_left;(intro w';go_simp;with_reducible rfl);rotate_left;(simp only[Act.put,z1,z2,z3,i64_w,i32_w];rfl)) |(refine tk_ (v:=?_) (a':=?_) rfl rfl HT_ HW_ (by kernel_rfl) (fun _ _ _ h=>h) (by rfl) hHeld ?_ ?_ ?_;rotate_left;(rintro w' ⟨s0,s1,s2,s3⟩;go_simp;with_reducible rfl);rotate_left;(simp only[Act.put,z1,z2,z3,i64_w,i32_w];rfl)) |fail)
             refine ran_ (m':=17179869183) rfl ?_;refine one_ (i:=34) (N:=some 57) (bb 37 34359738367) rfl rfl (one_of HT_.out (by kernel_rfl)) (by decide) (fun K hK=>?_);refine value_ (w1:=?_) (v:=?_) (by rfl) rfl ?_ ?_
             rotate_left 2
             ·go_simp
              constructor
              ·rfl
              ·rfl
             refine hK.out _ _ ⟨(World.cell?_alloc_lt _ _ _ (World.block_lt_of_cell? _ _ (((HB.out.cell (World.block_lt_of_cell? w _ hw123_0)).trans hw123_0)))).trans (((HB.out.cell (World.block_lt_of_cell? w _ hw123_0)).trans hw123_0)),(World.cell?_alloc_lt _ _ _ (World.block_lt_of_cell? _ _ (((HB.out.cell (World.block_lt_of_cell? w _ hw124_0)).trans hw124_0)))).trans (((HB.out.cell (World.block_lt_of_cell? w _ hw124_0)).trans hw124_0)),(World.cell?_alloc_lt _ _ _ (World.block_lt_of_cell? _ _ (((HB.out.cell (World.block_lt_of_cell? w _ hw125_0)).trans hw125_0)))).trans (((HB.out.cell (World.block_lt_of_cell? w _ hw125_0)).trans hw125_0)),(World.cell?_alloc_lt _ _ _ (World.block_lt_of_cell? _ _ (((HB.out.cell (World.block_lt_of_cell? w _ hw126_0)).trans hw126_0)))).trans (((HB.out.cell (World.block_lt_of_cell? w _ hw126_0)).trans hw126_0))⟩ (fun hHeld=>?_);clear hK K;refine norm_ (a':=?_) ?_ ?_
             rotate_left
             ·show Act.put _ (some 57) _=_
              simp only[Act.put,z1,z2,z3,i64_w,i32_w];rfl
             refine one_ (i:=35) (N:=some 58) (bb 37 68719476735) rfl rfl (one_of HT_.out (by kernel_rfl)) (by decide) (fun K hK=>?_);refine Kd.R_append_step (Kd.int .u32) (w0:=w) w.heap.size (by rfl) (.tmp 23) (.tmp 57) 118 117 (.int .u32 0) 4 rfl Tryd.underlying118 info117 rfl (by decide) (by omega) u5 x5_1 (Go.bits .or .u32 (Go.bits .or .u32 (Go.bits .or .u32 ((((rd l1 (ji4))%4294967296)*16777216)%4294967296) ((((rd l1 (ji7))%4294967296)*65536)%4294967296)) ((((rd l1 (ji10))%4294967296)*256)%4294967296)) ((rd l1 (ji13))%4294967296)) [.int .u32 (Go.bits .or .u32 (Go.bits .or .u32 (Go.bits .or .u32 ((((rd l1 (ji4))%4294967296)*16777216)%4294967296) ((((rd l1 (ji7))%4294967296)*65536)%4294967296)) ((((rd l1 (ji10))%4294967296)*256)%4294967296)) ((rd l1 (ji13))%4294967296))] (fun _=>True) (fun _=>False) rfl rfl ?aP (fun _ hk=>hk.elim) ?aF ?aO ?aB ?aS ?aL ?_
             (case aP=>exact rfl)
             (case aB=>exact (by repeat (first |(with_reducible first |exact HB.out |apply below_alloc |apply pw_below_drewN |apply below_drew1) |exact HB.out)))
             (case aF=>exact (fun _ _=>trivial))
             (case aO=>exact (by (with_reducible repeat (first |apply Kd.R_alloc |apply Kd.R_drewN |apply Kd.R_drew));exact HO_5.out))
             (case aS=>exact (below_size (by repeat (first |(with_reducible first |exact HB.out |apply below_alloc |apply pw_below_drewN |apply below_drew1) |exact HB.out))))
             (case aL=>have:=LMc16.out;omega)
             intro v128 w18 ho hb hg hat;rw[<-Ny127.out] at ho;have n0_:=Aside0.mk (hb);have n1_:=Aside0.mk (ho);clear HB;clear HO_5;have HB:=n0_;have HO129:=n1_;clear n0_ n1_;clear ho hb hg hat;refine hK.out _ _ ⟨((HB.out.cell (World.block_lt_of_cell? w _ hw123_0)).trans hw123_0),((HB.out.cell (World.block_lt_of_cell? w _ hw124_0)).trans hw124_0),((HB.out.cell (World.block_lt_of_cell? w _ hw125_0)).trans hw125_0),((HB.out.cell (World.block_lt_of_cell? w _ hw126_0)).trans hw126_0)⟩ (fun hHeld=>?_);clear hK K;refine norm_ (a':=?_) ?_ ?_
             rotate_left
             ·show Act.put _ (some 58) _=_
              simp only[Act.put,z1,z2,z3,i64_w,i32_w];rfl
             refine pj_ (v:=?_) (a':=?_) 36 (some 5) (bb 37 137438953471) rfl rfl HT_ (by kernel_rfl) (fun _ _ _ h=>h) (by rfl) ?_ ?_ ?_
             rotate_left;(intro w';go_simp;with_reducible rfl);rotate_left;(simp only[Act.put,z1,z2,z3,i64_w,i32_w];rfl)
             refine done_ (done_of HT_.out (by kernel_rfl)) ?_
             try go_wp2
             go_roundg k1
             case measure=>have:=HK1.out;omega
             case rel=>exact⟨(y127),(wrap64 (x6_1+1)),(by first |rfl |(simp;done) |(simp[*];done)),H',⟨by have:=HK1.out;omega⟩,⟨by (with_reducible repeat (first |apply Kd.R_alloc |apply Kd.R_drewN |apply Kd.R_drew));exact HO129.out⟩,⟨by repeat (first |(with_reducible first |exact HB.out |apply below_alloc |apply pw_below_drewN |apply below_drew1) |exact HB.out)⟩⟩
            ·rw[if_neg c16] at H;exact absurd H (by simp)
           ·rw[if_neg c15] at H;exact absurd H (by simp)
          ·rw[if_neg c14] at H;exact absurd H (by simp)
         ·rw[if_neg c12] at H;exact absurd H (by simp)
        ·rw[if_neg c11] at H;exact absurd H (by simp)
       ·rw[if_neg c9] at H;exact absurd H (by simp)
      ·rw[if_neg c8] at H;exact absurd H (by simp)
     ·rw[if_neg c6] at H;exact absurd H (by simp)
    ·rw[if_neg c5] at H;exact absurd H (by simp)
   ·rw[if_neg c3] at H;have c3b0:decide (x6_1<16)=false:=decide_eq_false c3;clear c3;have H':=Aside0.mk H;clear H
    go_wp2
    go_loopg [5,7] k1 (fun kq v5 v7 w'=>∃(x5_2:List Int) (x7_2:Int),v7=.int .i64 x7_2∧Aside0 (aircheckref02_block.l1 kq l0 x5_2 x7_2=some r)∧Aside0 (kq<=k1)∧Aside0 (Kd.R (Kd.int .u32) 117 w' w.heap.size (fun _=>True) v5 x5_2)∧Aside0 (Below w.heap.size w w'))
    case atStart=>exact⟨(x5_1),(16),(by first |rfl |(simp;done) |(simp[*];done)),H',⟨Nat.le_refl _⟩,⟨by (with_reducible repeat (first |apply Kd.R_alloc |apply Kd.R_drewN |apply Kd.R_drew));exact HO_5.out⟩,⟨by repeat (first |(with_reducible first |exact HB.out |apply below_alloc |apply pw_below_drewN |apply below_drew1) |exact HB.out)⟩⟩
    case round=>
     clear H'
     try clear c1
     try clear p1
     try clear q1
     try clear hx1
     try clear p2
     try clear c3
     try clear c3b0
     try clear c5
     try clear c5b0
     try clear c6
     try clear c6b0
     try clear p6
     try clear c7
     try clear c8
     try clear c8b0
     try clear c9
     try clear c9b0
     try clear c11
     try clear c11b0
     try clear c12
     try clear c12b0
     try clear p12
     try clear q12
     try clear hx12
     try clear c14
     try clear c14b0
     try clear c15
     try clear c15b0
     try clear c16
     try clear hx123_0
     try clear hx124_0
     try clear hx125_0
     try clear hx126_0
     try clear p123
     try clear p124
     try clear p125
     try clear p126
     try clear p2
     try clear q123
     try clear q124
     try clear q125
     try clear q126
     obtain⟨x5_2,x7_2,rfl,HA,HK2,HO_5,HB⟩:=hrel
     cases gk with
     |zero=>exact absurd HA.out (by simp[aircheckref02_block.l1])
     |succ k2=>
      have H:=HA.out;clear HA;simp only[aircheckref02_block.l1] at H
      by_cases c19:x7_2<64
      ·rw[if_pos c19] at H;have c19b0:decide (x7_2<64)=true:=decide_eq_true c19;clear c19;obtain⟨ji20,hji20⟩:∃j_:Int,(wrap64 (x7_2 - 15))=j_:=⟨_,rfl⟩
       replace H:(if 0<=(ji20) then (if (ji20)<(x5_2.length:Int) then ((aircheckref02_rotated.f (rd x5_2 (ji20)) 7).bind fun t131=>((aircheckref02_rotated.f (rd x5_2 (ji20)) 18).bind fun t133=>(if 0<=(wrap64 (x7_2 - 2)) then (if (wrap64 (x7_2 - 2))<(x5_2.length:Int) then ((aircheckref02_rotated.f (rd x5_2 (wrap64 (x7_2 - 2))) 17).bind fun t136=>((aircheckref02_rotated.f (rd x5_2 (wrap64 (x7_2 - 2))) 19).bind fun t138=>(if 0<=(wrap64 (x7_2 - 16)) then (if (wrap64 (x7_2 - 16))<(x5_2.length:Int) then (if 0<=(wrap64 (x7_2 - 7)) then (if (wrap64 (x7_2 - 7))<(x5_2.length:Int) then (if x5_2.length<35184372088832 then (aircheckref02_block.l1 k2 l0 (x5_2++[((((((rd x5_2 (wrap64 (x7_2 - 16)))+(Go.bits .xor .u32 (Go.bits .xor .u32 t131 t133) ((rd x5_2 (ji20)) / 8)))%4294967296)+(rd x5_2 (wrap64 (x7_2 - 7))))%4294967296)+(Go.bits .xor .u32 (Go.bits .xor .u32 t136 t138) ((rd x5_2 (wrap64 (x7_2 - 2))) / 1024)))%4294967296]) (wrap64 (x7_2+1))) else (none)) else (none)) else (none)) else (none)) else (none)))) else (none)) else (none)))) else (none)) else (none))=some r:=by first |(rw[hji20] at H;exact H) |(simp only[hji20] at H ⊢;exact H)
       have hji20w:(IntKind.i64.wrap (x7_2 - 15))=ji20:=(i64_w _).trans hji20
       by_cases c21:0<=(ji20)
       ·rw[if_pos c21] at H;have c21b0:decide (0<=(ji20))=true:=decide_eq_true c21;clear c21
        by_cases c22:(ji20)<(x5_2.length:Int)
        ·rw[if_pos c22] at H;have c22b0:decide ((ji20)<(x5_2.length:Int))=true:=decide_eq_true c22;clear c22;replace H:=Option.bind_eq_some_iff.mp H;obtain⟨t131,A230,H⟩:=H;replace H:((aircheckref02_rotated.f (rd x5_2 (ji20)) 18).bind fun t133=>(if 0<=(wrap64 (x7_2 - 2)) then (if (wrap64 (x7_2 - 2))<(x5_2.length:Int) then ((aircheckref02_rotated.f (rd x5_2 (wrap64 (x7_2 - 2))) 17).bind fun t136=>((aircheckref02_rotated.f (rd x5_2 (wrap64 (x7_2 - 2))) 19).bind fun t138=>(if 0<=(wrap64 (x7_2 - 16)) then (if (wrap64 (x7_2 - 16))<(x5_2.length:Int) then (if 0<=(wrap64 (x7_2 - 7)) then (if (wrap64 (x7_2 - 7))<(x5_2.length:Int) then (if x5_2.length<35184372088832 then (aircheckref02_block.l1 k2 l0 (x5_2++[((((((rd x5_2 (wrap64 (x7_2 - 16)))+(Go.bits .xor .u32 (Go.bits .xor .u32 t131 t133) ((rd x5_2 (ji20)) / 8)))%4294967296)+(rd x5_2 (wrap64 (x7_2 - 7))))%4294967296)+(Go.bits .xor .u32 (Go.bits .xor .u32 t136 t138) ((rd x5_2 (wrap64 (x7_2 - 2))) / 1024)))%4294967296]) (wrap64 (x7_2+1))) else (none)) else (none)) else (none)) else (none)) else (none)))) else (none)) else (none)))=some r:=H;have A23:=Aside0.mk A230;clear A230;replace H:=Option.bind_eq_some_iff.mp H;obtain⟨t133,A240,H⟩:=H;replace H:(if 0<=(wrap64 (x7_2 - 2)) then (if (wrap64 (x7_2 - 2))<(x5_2.length:Int) then ((aircheckref02_rotated.f (rd x5_2 (wrap64 (x7_2 - 2))) 17).bind fun t136=>((aircheckref02_rotated.f (rd x5_2 (wrap64 (x7_2 - 2))) 19).bind fun t138=>(if 0<=(wrap64 (x7_2 - 16)) then (if (wrap64 (x7_2 - 16))<(x5_2.length:Int) then (if 0<=(wrap64 (x7_2 - 7)) then (if (wrap64 (x7_2 - 7))<(x5_2.length:Int) then (if x5_2.length<35184372088832 then (aircheckref02_block.l1 k2 l0 (x5_2++[((((((rd x5_2 (wrap64 (x7_2 - 16)))+(Go.bits .xor .u32 (Go.bits .xor .u32 t131 t133) ((rd x5_2 (ji20)) / 8)))%4294967296)+(rd x5_2 (wrap64 (x7_2 - 7))))%4294967296)+(Go.bits .xor .u32 (Go.bits .xor .u32 t136 t138) ((rd x5_2 (wrap64 (x7_2 - 2))) / 1024)))%4294967296]) (wrap64 (x7_2+1))) else (none)) else (none)) else (none)) else (none)) else (none)))) else (none)) else (none))=some r:=H;have A24:=Aside0.mk A240;clear A240;obtain⟨ji25,hji25⟩:∃j_:Int,(wrap64 (x7_2 - 2))=j_:=⟨_,rfl⟩
         replace H:(if 0<=(ji25) then (if (ji25)<(x5_2.length:Int) then ((aircheckref02_rotated.f (rd x5_2 (ji25)) 17).bind fun t136=>((aircheckref02_rotated.f (rd x5_2 (ji25)) 19).bind fun t138=>(if 0<=(wrap64 (x7_2 - 16)) then (if (wrap64 (x7_2 - 16))<(x5_2.length:Int) then (if 0<=(wrap64 (x7_2 - 7)) then (if (wrap64 (x7_2 - 7))<(x5_2.length:Int) then (if x5_2.length<35184372088832 then (aircheckref02_block.l1 k2 l0 (x5_2++[((((((rd x5_2 (wrap64 (x7_2 - 16)))+(Go.bits .xor .u32 (Go.bits .xor .u32 t131 t133) ((rd x5_2 (ji20)) / 8)))%4294967296)+(rd x5_2 (wrap64 (x7_2 - 7))))%4294967296)+(Go.bits .xor .u32 (Go.bits .xor .u32 t136 t138) ((rd x5_2 (ji25)) / 1024)))%4294967296]) (wrap64 (x7_2+1))) else (none)) else (none)) else (none)) else (none)) else (none)))) else (none)) else (none))=some r:=by first |(rw[hji25] at H;exact H) |(simp only[hji25] at H ⊢;exact H)
         (try rw[hji25] at A23)
         (try rw[hji25] at A24)
         have hji25w:(IntKind.i64.wrap (x7_2 - 2))=ji25:=(i64_w _).trans hji25
         by_cases c26:0<=(ji25)
         ·rw[if_pos c26] at H;have c26b0:decide (0<=(ji25))=true:=decide_eq_true c26;clear c26
          by_cases c27:(ji25)<(x5_2.length:Int)
          ·rw[if_pos c27] at H;have c27b0:decide ((ji25)<(x5_2.length:Int))=true:=decide_eq_true c27;clear c27;replace H:=Option.bind_eq_some_iff.mp H;obtain⟨t136,A280,H⟩:=H;replace H:((aircheckref02_rotated.f (rd x5_2 (ji25)) 19).bind fun t138=>(if 0<=(wrap64 (x7_2 - 16)) then (if (wrap64 (x7_2 - 16))<(x5_2.length:Int) then (if 0<=(wrap64 (x7_2 - 7)) then (if (wrap64 (x7_2 - 7))<(x5_2.length:Int) then (if x5_2.length<35184372088832 then (aircheckref02_block.l1 k2 l0 (x5_2++[((((((rd x5_2 (wrap64 (x7_2 - 16)))+(Go.bits .xor .u32 (Go.bits .xor .u32 t131 t133) ((rd x5_2 (ji20)) / 8)))%4294967296)+(rd x5_2 (wrap64 (x7_2 - 7))))%4294967296)+(Go.bits .xor .u32 (Go.bits .xor .u32 t136 t138) ((rd x5_2 (ji25)) / 1024)))%4294967296]) (wrap64 (x7_2+1))) else (none)) else (none)) else (none)) else (none)) else (none)))=some r:=H;have A28:=Aside0.mk A280;clear A280;replace H:=Option.bind_eq_some_iff.mp H;obtain⟨t138,A290,H⟩:=H;replace H:(if 0<=(wrap64 (x7_2 - 16)) then (if (wrap64 (x7_2 - 16))<(x5_2.length:Int) then (if 0<=(wrap64 (x7_2 - 7)) then (if (wrap64 (x7_2 - 7))<(x5_2.length:Int) then (if x5_2.length<35184372088832 then (aircheckref02_block.l1 k2 l0 (x5_2++[((((((rd x5_2 (wrap64 (x7_2 - 16)))+(Go.bits .xor .u32 (Go.bits .xor .u32 t131 t133) ((rd x5_2 (ji20)) / 8)))%4294967296)+(rd x5_2 (wrap64 (x7_2 - 7))))%4294967296)+(Go.bits .xor .u32 (Go.bits .xor .u32 t136 t138) ((rd x5_2 (ji25)) / 1024)))%4294967296]) (wrap64 (x7_2+1))) else (none)) else (none)) else (none)) else (none)) else (none))=some r:=H;have A29:=Aside0.mk A290;clear A290;obtain⟨ji30,hji30⟩:∃j_:Int,(wrap64 (x7_2 - 16))=j_:=⟨_,rfl⟩
           replace H:(if 0<=(ji30) then (if (ji30)<(x5_2.length:Int) then (if 0<=(wrap64 (x7_2 - 7)) then (if (wrap64 (x7_2 - 7))<(x5_2.length:Int) then (if x5_2.length<35184372088832 then (aircheckref02_block.l1 k2 l0 (x5_2++[((((((rd x5_2 (ji30))+(Go.bits .xor .u32 (Go.bits .xor .u32 t131 t133) ((rd x5_2 (ji20)) / 8)))%4294967296)+(rd x5_2 (wrap64 (x7_2 - 7))))%4294967296)+(Go.bits .xor .u32 (Go.bits .xor .u32 t136 t138) ((rd x5_2 (ji25)) / 1024)))%4294967296]) (wrap64 (x7_2+1))) else (none)) else (none)) else (none)) else (none)) else (none))=some r:=by first |(rw[hji30] at H;exact H) |(simp only[hji30] at H ⊢;exact H)
           (try rw[hji30] at A23)
           (try rw[hji30] at A24)
           (try rw[hji30] at A28)
           (try rw[hji30] at A29)
           have hji30w:(IntKind.i64.wrap (x7_2 - 16))=ji30:=(i64_w _).trans hji30
           by_cases c31:0<=(ji30)
           ·rw[if_pos c31] at H;have c31b0:decide (0<=(ji30))=true:=decide_eq_true c31;clear c31
            by_cases c32:(ji30)<(x5_2.length:Int)
            ·rw[if_pos c32] at H;have c32b0:decide ((ji30)<(x5_2.length:Int))=true:=decide_eq_true c32;clear c32;obtain⟨ji33,hji33⟩:∃j_:Int,(wrap64 (x7_2 - 7))=j_:=⟨_,rfl⟩
             replace H:(if 0<=(ji33) then (if (ji33)<(x5_2.length:Int) then (if x5_2.length<35184372088832 then (aircheckref02_block.l1 k2 l0 (x5_2++[((((((rd x5_2 (ji30))+(Go.bits .xor .u32 (Go.bits .xor .u32 t131 t133) ((rd x5_2 (ji20)) / 8)))%4294967296)+(rd x5_2 (ji33)))%4294967296)+(Go.bits .xor .u32 (Go.bits .xor .u32 t136 t138) ((rd x5_2 (ji25)) / 1024)))%4294967296]) (wrap64 (x7_2+1))) else (none)) else (none)) else (none))=some r:=by first |(rw[hji33] at H;exact H) |(simp only[hji33] at H ⊢;exact H)
             (try rw[hji33] at A23)
             (try rw[hji33] at A24)
             (try rw[hji33] at A28)
             (try rw[hji33] at A29)
             have hji33w:(IntKind.i64.wrap (x7_2 - 7))=ji33:=(i64_w _).trans hji33
             by_cases c34:0<=(ji33)
             ·rw[if_pos c34] at H;have c34b0:decide (0<=(ji33))=true:=decide_eq_true c34;clear c34
              by_cases c35:(ji33)<(x5_2.length:Int)
              ·rw[if_pos c35] at H;have c35b0:decide ((ji33)<(x5_2.length:Int))=true:=decide_eq_true c35;clear c35
               by_cases c36:x5_2.length<35184372088832
               ·rw[if_pos c36] at H;have LMc36:=Aside0.mk c36;clear c36;obtain⟨y142,hy142⟩:∃y_:List Int,y_=(x5_2++[((((((rd x5_2 (ji30))+(Go.bits .xor .u32 (Go.bits .xor .u32 t131 t133) ((rd x5_2 (ji20)) / 8)))%4294967296)+(rd x5_2 (ji33)))%4294967296)+(Go.bits .xor .u32 (Go.bits .xor .u32 t136 t138) ((rd x5_2 (ji25)) / 1024)))%4294967296]):=⟨_,rfl⟩
                replace H:(aircheckref02_block.l1 k2 l0 y142 (wrap64 (x7_2+1)))=some r:=by first |(rw[hy142];with_reducible exact H) |(have H2_:=(Option.bind_some _ _).symm.trans H;rw[hy142];with_reducible exact H2_) |(have H2_:=(Option.bind_some _ _).symm.trans H;with_reducible exact H2_) |with_reducible exact H |(rw[hy142];exact H) |exact H
                have Ny142:=Aside0.mk hy142;clear hy142;have H':=Aside0.mk H;clear H
                try go_wp2
                have n0_:=Aside0.mk (Kd.R_drew HO_5.out);have n1_:=Aside0.mk (below_drew1 HB.out);clear HO_5;clear HB;have HO_5:=n0_;have HB:=n1_;clear n0_ n1_;obtain⟨Ao38,co38,eo38⟩:=Kd.R_slice HO_5.out
                (first |subst eo38 |(injection eo38 with f1_ f2_ f3_;have f4_:=f1_.symm;have f5_:=f3_.symm;clear f1_ f2_ f3_;subst f4_;subst f5_))
                have p130:0<=((ji20):Int):=of_decide_eq_true (by first |(with_reducible assumption) |assumption);have q130:(ji20)<(x5_2.length:Int):=of_decide_eq_true (by first |(with_reducible assumption) |assumption);obtain⟨ad130,e130,hx130_0⟩:=Kd.at_int (Kd.R_reads' HO_5.out).2.2 (ji20) p130 q130
                cases e130
                replace p130:=eq_true p130;replace q130:=eq_true q130;have p132:0<=((ji20):Int):=of_decide_eq_true (by first |(with_reducible assumption) |assumption);have q132:(ji20)<(x5_2.length:Int):=of_decide_eq_true (by first |(with_reducible assumption) |assumption);obtain⟨ad132,e132,hx132_0⟩:=Kd.at_int (Kd.R_reads' HO_5.out).2.2 (ji20) p132 q132;obtain rfl:ad130=ad132:=(by injection e132);replace p132:=eq_true p132;replace q132:=eq_true q132;have p134:0<=((ji20):Int):=of_decide_eq_true (by first |(with_reducible assumption) |assumption);have q134:(ji20)<(x5_2.length:Int):=of_decide_eq_true (by first |(with_reducible assumption) |assumption);obtain⟨ad134,e134,hx134_0⟩:=Kd.at_int (Kd.R_reads' HO_5.out).2.2 (ji20) p134 q134;obtain rfl:ad130=ad134:=(by injection e134);replace p134:=eq_true p134;replace q134:=eq_true q134;refine start_ (n:=21) (S:=fun w'=>w'.cell? (ad130.add ((ji20)).toNat)=some (.int .u32 (rd x5_2 (ji20)))∧w'.cell? (ad130.add ((ji20)).toNat)=some (.int .u32 (rd x5_2 (ji20)))∧w'.cell? (ad130.add ((ji20)).toNat)=some (.int .u32 (rd x5_2 (ji20)))) (ds:=[]) (bb 21 0) (by kernel_rfl) rfl rfl ⟨hx130_0,hx132_0,hx134_0⟩ (fun hHeld=>?_);refine with_tabW aircheckref02_block.tab9 aircheckref02_block.bits9 (fun HT_ HW_=>?_);generalize wr.drew=w37 at HO_5 HB hx130_0 hx132_0 hx134_0 hHeld ⊢;refine run_ [.p 0,.p 1,.p 2,.p 3,.p 6,.p 7,.p 8,.p 9,.p 13,.p 14,.p 15,.p 16,.t 4,.t 10,.t 17,.p 18] ?_
                repeat (first |(refine pk_ (v:=?_) (a':=?_) rfl rfl HT_ (by kernel_rfl) (fun _ _ _ h=>h) (by rfl) ?_ ?_ ?_;rotate_left;(intro w';go_simp;with_reducible rfl);rotate_left;(simp only[Act.put,z1,z2,z3,i64_w,i32_w];rfl)) |(refine tk_ (v:=?_) (a':=?_) rfl rfl HT_ HW_ (by kernel_rfl) (fun _ _ _ h=>h) (by rfl) hHeld ?_ ?_ ?_;rotate_left;(rintro w' ⟨s0,s1,s2⟩;go_simp;with_reducible rfl);rotate_left;(simp only[Act.put,z1,z2,z3,i64_w,i32_w];rfl)) |fail)
                refine ran_ (m':=518111) rfl ?_;refine one_ (i:=5) (N:=some 68) (bb 21 518143) rfl rfl (one_of HT_.out (by kernel_rfl)) (by decide) (fun K hK=>?_);refine goes_ Tryd.func91 (by kernel_rfl) rfl #[.int .u32 (rd x5_2 (ji20)),.int .i64 7] (by rfl) rfl rfl (by (try simp only[List.map_toArray,List.map_cons,List.map_nil]);first |done |(simp only[hji20];rfl) |rfl |(simp only[List.length_drop,List.length_take];rfl)) ?_
                with_reducible refine (aircheckref02_rotated.calls (rd x5_2 (ji20)) 7 t131 _ A23.out).mono ?_
                rintro e w' ⟨rfl,⟨nd,rfl⟩⟩
                refine⟨_,rfl,?_⟩;refine hK.out _ _ ⟨hHeld.1,hHeld.2.1,hHeld.2.2⟩ (fun hHeld=>?_);clear hK K;refine norm_ (a':=?_) ?_ ?_
                rotate_left
                ·show Act.put _ (some 68) _=_
                 simp only[Act.put,z1,z2,z3,i64_w,i32_w];rfl
                refine one_ (i:=11) (N:=some 74) (bb 21 520191) rfl rfl (one_of HT_.out (by kernel_rfl)) (by decide) (fun K hK=>?_);refine goes_ Tryd.func91 (by kernel_rfl) rfl #[.int .u32 (rd x5_2 (ji20)),.int .i64 18] (by rfl) rfl rfl (by (try simp only[List.map_toArray,List.map_cons,List.map_nil]);first |done |(simp only[hji20];rfl) |rfl |(simp only[List.length_drop,List.length_take];rfl)) ?_
                with_reducible refine (aircheckref02_rotated.calls (rd x5_2 (ji20)) 18 t133 _ A24.out).mono ?_
                rintro e w' ⟨rfl,⟨nd,rfl⟩⟩
                refine⟨_,rfl,?_⟩;refine hK.out _ _ ⟨hHeld.1,hHeld.2.1,hHeld.2.2⟩ (fun hHeld=>?_);clear hK K;refine norm_ (a':=?_) ?_ ?_
                rotate_left
                ·show Act.put _ (some 74) _=_
                 simp only[Act.put,z1,z2,z3,i64_w,i32_w];rfl
                refine run_ [.p 12,.p 19,.p 20] ?_
                repeat (first |(refine pk_ (v:=?_) (a':=?_) rfl rfl HT_ (by kernel_rfl) (fun _ _ _ h=>h) (by rfl) ?_ ?_ ?_;rotate_left;(intro w';go_simp;with_reducible rfl);rotate_left;(simp only[Act.put,z1,z2,z3,i64_w,i32_w];rfl)) |fail)
                refine ran_ (m':=2097151) rfl ?_;refine done_ (done_of HT_.out (by kernel_rfl)) ?_
                try go_wp2
                (try (rw[drewN_self w37];generalize hq_:World.drewN w37 _=w37;have n0_:Aside0 (Kd.R (Kd.int .u32) 117 w37 w.heap.size (fun _=>True) (.slice (some ad130) x5_2.length co38) x5_2):=⟨by rw[<-hq_];exact (by (with_reducible repeat (first |apply Kd.R_alloc |apply Kd.R_drewN |apply Kd.R_drew));exact HO_5.out)⟩;have n1_:Aside0 (Below w.heap.size w w37):=⟨by rw[<-hq_];exact (by repeat (first |(with_reducible first |exact HB.out |apply below_alloc |apply pw_below_drewN |apply below_drew1) |exact HB.out))⟩;clear HO_5 HB hq_;have HO_5:=n0_;have HB:=n1_;clear n0_ n1_))
                have n0_:=Aside0.mk (Kd.R_drew HO_5.out);have n1_:=Aside0.mk (below_drew1 HB.out);clear HO_5;clear HB;have HO_5:=n0_;have HB:=n1_;clear n0_ n1_;have p135:0<=((ji25):Int):=of_decide_eq_true (by first |(with_reducible assumption) |assumption);have q135:(ji25)<(x5_2.length:Int):=of_decide_eq_true (by first |(with_reducible assumption) |assumption);obtain⟨ad135,e135,hx135_0⟩:=Kd.at_int (Kd.R_reads' HO_5.out).2.2 (ji25) p135 q135;obtain rfl:ad130=ad135:=(by injection e135);replace p135:=eq_true p135;replace q135:=eq_true q135;have p137:0<=((ji25):Int):=of_decide_eq_true (by first |(with_reducible assumption) |assumption);have q137:(ji25)<(x5_2.length:Int):=of_decide_eq_true (by first |(with_reducible assumption) |assumption);obtain⟨ad137,e137,hx137_0⟩:=Kd.at_int (Kd.R_reads' HO_5.out).2.2 (ji25) p137 q137;obtain rfl:ad130=ad137:=(by injection e137);replace p137:=eq_true p137;replace q137:=eq_true q137;have p139:0<=((ji25):Int):=of_decide_eq_true (by first |(with_reducible assumption) |assumption);have q139:(ji25)<(x5_2.length:Int):=of_decide_eq_true (by first |(with_reducible assumption) |assumption);obtain⟨ad139,e139,hx139_0⟩:=Kd.at_int (Kd.R_reads' HO_5.out).2.2 (ji25) p139 q139;obtain rfl:ad130=ad139:=(by injection e139);replace p139:=eq_true p139;replace q139:=eq_true q139;refine start_ (n:=21) (S:=fun w'=>w'.cell? (ad130.add ((ji25)).toNat)=some (.int .u32 (rd x5_2 (ji25)))∧w'.cell? (ad130.add ((ji25)).toNat)=some (.int .u32 (rd x5_2 (ji25)))∧w'.cell? (ad130.add ((ji25)).toNat)=some (.int .u32 (rd x5_2 (ji25)))) (ds:=[]) (bb 21 0) (by kernel_rfl) rfl rfl ⟨hx135_0,hx137_0,hx139_0⟩ (fun hHeld=>?_);refine with_tabW aircheckref02_block.tab10 aircheckref02_block.bits10 (fun HT_ HW_=>?_);generalize w37.drew=w39 at HO_5 HB hx135_0 hx137_0 hx139_0 hHeld ⊢;refine run_ [.p 0,.p 1,.p 2,.p 3,.p 6,.p 7,.p 8,.p 9,.p 13,.p 14,.p 15,.p 16,.t 4,.t 10,.t 17,.p 18] ?_
                repeat (first |(refine pk_ (v:=?_) (a':=?_) rfl rfl HT_ (by kernel_rfl) (fun _ _ _ h=>h) (by rfl) ?_ ?_ ?_;rotate_left;(intro w';go_simp;with_reducible rfl);rotate_left;(simp only[Act.put,z1,z2,z3,i64_w,i32_w];rfl)) |(refine tk_ (v:=?_) (a':=?_) rfl rfl HT_ HW_ (by kernel_rfl) (fun _ _ _ h=>h) (by rfl) hHeld ?_ ?_ ?_;rotate_left;(rintro w' ⟨s0,s1,s2⟩;go_simp;with_reducible rfl);rotate_left;(simp only[Act.put,z1,z2,z3,i64_w,i32_w];rfl)) |fail)
                refine ran_ (m':=518111) rfl ?_;refine one_ (i:=5) (N:=some 88) (bb 21 518143) rfl rfl (one_of HT_.out (by kernel_rfl)) (by decide) (fun K hK=>?_);refine goes_ Tryd.func91 (by kernel_rfl) rfl #[.int .u32 (rd x5_2 (ji25)),.int .i64 17] (by rfl) rfl rfl (by (try simp only[List.map_toArray,List.map_cons,List.map_nil]);first |done |(simp only[hji25];rfl) |rfl |(simp only[List.length_drop,List.length_take];rfl)) ?_
                with_reducible refine (aircheckref02_rotated.calls (rd x5_2 (ji25)) 17 t136 _ A28.out).mono ?_
                rintro e w' ⟨rfl,⟨nd,rfl⟩⟩
                refine⟨_,rfl,?_⟩;refine hK.out _ _ ⟨hHeld.1,hHeld.2.1,hHeld.2.2⟩ (fun hHeld=>?_);clear hK K;refine norm_ (a':=?_) ?_ ?_
                rotate_left
                ·show Act.put _ (some 88) _=_
                 simp only[Act.put,z1,z2,z3,i64_w,i32_w];rfl
                refine one_ (i:=11) (N:=some 94) (bb 21 520191) rfl rfl (one_of HT_.out (by kernel_rfl)) (by decide) (fun K hK=>?_);refine goes_ Tryd.func91 (by kernel_rfl) rfl #[.int .u32 (rd x5_2 (ji25)),.int .i64 19] (by rfl) rfl rfl (by (try simp only[List.map_toArray,List.map_cons,List.map_nil]);first |done |(simp only[hji25];rfl) |rfl |(simp only[List.length_drop,List.length_take];rfl)) ?_
                with_reducible refine (aircheckref02_rotated.calls (rd x5_2 (ji25)) 19 t138 _ A29.out).mono ?_
                rintro e w' ⟨rfl,⟨nd,rfl⟩⟩
                refine⟨_,rfl,?_⟩;refine hK.out _ _ ⟨hHeld.1,hHeld.2.1,hHeld.2.2⟩ (fun hHeld=>?_);clear hK K;refine norm_ (a':=?_) ?_ ?_
                rotate_left
                ·show Act.put _ (some 94) _=_
                 simp only[Act.put,z1,z2,z3,i64_w,i32_w];rfl
                refine run_ [.p 12,.p 19,.p 20] ?_
                repeat (first |(refine pk_ (v:=?_) (a':=?_) rfl rfl HT_ (by kernel_rfl) (fun _ _ _ h=>h) (by rfl) ?_ ?_ ?_;rotate_left;(intro w';go_simp;with_reducible rfl);rotate_left;(simp only[Act.put,z1,z2,z3,i64_w,i32_w];rfl)) |fail)
                refine ran_ (m':=2097151) rfl ?_;refine done_ (done_of HT_.out (by kernel_rfl)) ?_
                try go_wp2
                (try (rw[drewN_self w39];generalize hq_:World.drewN w39 _=w39;have n0_:Aside0 (Kd.R (Kd.int .u32) 117 w39 w.heap.size (fun _=>True) (.slice (some ad130) x5_2.length co38) x5_2):=⟨by rw[<-hq_];exact (by (with_reducible repeat (first |apply Kd.R_alloc |apply Kd.R_drewN |apply Kd.R_drew));exact HO_5.out)⟩;have n1_:Aside0 (Below w.heap.size w w39):=⟨by rw[<-hq_];exact (by repeat (first |(with_reducible first |exact HB.out |apply below_alloc |apply pw_below_drewN |apply below_drew1) |exact HB.out))⟩;clear HO_5 HB hq_;have HO_5:=n0_;have HB:=n1_;clear n0_ n1_))
                have n0_:=Aside0.mk (Kd.R_drew HO_5.out);have n1_:=Aside0.mk (below_drew1 HB.out);clear HO_5;clear HB;have HO_5:=n0_;have HB:=n1_;clear n0_ n1_;have p140:0<=((ji30):Int):=of_decide_eq_true (by first |(with_reducible assumption) |assumption);have q140:(ji30)<(x5_2.length:Int):=of_decide_eq_true (by first |(with_reducible assumption) |assumption);obtain⟨ad140,e140,hx140_0⟩:=Kd.at_int (Kd.R_reads' HO_5.out).2.2 (ji30) p140 q140;obtain rfl:ad130=ad140:=(by injection e140);replace p140:=eq_true p140;replace q140:=eq_true q140;have p141:0<=((ji33):Int):=of_decide_eq_true (by first |(with_reducible assumption) |assumption);have q141:(ji33)<(x5_2.length:Int):=of_decide_eq_true (by first |(with_reducible assumption) |assumption);obtain⟨ad141,e141,hx141_0⟩:=Kd.at_int (Kd.R_reads' HO_5.out).2.2 (ji33) p141 q141;obtain rfl:ad130=ad141:=(by injection e141);replace p141:=eq_true p141;replace q141:=eq_true q141;refine start_ (n:=19) (S:=fun w'=>w'.cell? (ad130.add ((ji30)).toNat)=some (.int .u32 (rd x5_2 (ji30)))∧w'.cell? (ad130.add ((ji33)).toNat)=some (.int .u32 (rd x5_2 (ji33)))) (ds:=[16,17]) (bb 19 0) (by kernel_rfl) rfl rfl ⟨hx140_0,hx141_0⟩ (fun hHeld=>?_);refine with_tabW aircheckref02_block.tab11 aircheckref02_block.bits11 (fun HT_ HW_=>?_);generalize w39.drew=w40 at HO_5 HB hx140_0 hx141_0 hHeld ⊢;refine run_ [.p 0,.p 1,.p 2,.p 3,.p 4,.p 6,.p 8,.p 9,.p 10,.p 11,.p 14,.t 5,.p 7,.t 12,.p 13,.p 15] ?_
                repeat (first |(refine pk_ (v:=?_) (a':=?_) rfl rfl HT_ (by kernel_rfl) (fun _ _ _ h=>h) (by rfl) ?_ ?_ ?_;rotate_left;(intro w';go_simp;with_reducible rfl);rotate_left;(simp only[Act.put,z1,z2,z3,i64_w,i32_w];rfl)) |(refine tk_ (v:=?_) (a':=?_) rfl rfl HT_ HW_ (by kernel_rfl) (fun _ _ _ h=>h) (by rfl) hHeld ?_ ?_ ?_;rotate_left;(rintro w' ⟨s0,s1⟩;go_simp;with_reducible rfl);rotate_left;(simp only[Act.put,z1,z2,z3,i64_w,i32_w];rfl)) |fail)
                refine ran_ (m':=65535) rfl ?_;refine last_ (i:=16) (N:=some 119) (bb 19 131071) rfl rfl (one_of HT_.out (by kernel_rfl)) (by decide) (fun K hK=>?_);refine value_ (w1:=?_) (v:=?_) (by rfl) rfl ?_ ?_
                rotate_left 2
                ·go_simp
                 constructor
                 ·rfl
                 ·rfl
                refine hK.out _ _ ?_;clear hK K;refine norm_ (a':=?_) ?_ ?_
                rotate_left
                ·show Act.put _ (some 119) _=_
                 simp only[Act.put,z1,z2,z3,i64_w,i32_w];rfl
                refine last_ (i:=17) (N:=some 120) (bb 19 262143) rfl rfl (one_of HT_.out (by kernel_rfl)) (by decide) (fun K hK=>?_);refine Kd.R_append_step (Kd.int .u32) (w0:=w) w.heap.size (by rfl) (.tmp 103) (.tmp 119) 118 117 (.int .u32 0) 4 rfl Tryd.underlying118 info117 rfl (by decide) (by omega) (.slice (some ad130) x5_2.length co38) x5_2 (((((((rd x5_2 (ji30))+(Go.bits .xor .u32 (Go.bits .xor .u32 t131 t133) ((rd x5_2 (ji20)) / 8)))%4294967296)+(rd x5_2 (ji33)))%4294967296)+(Go.bits .xor .u32 (Go.bits .xor .u32 t136 t138) ((rd x5_2 (ji25)) / 1024)))%4294967296) [.int .u32 (((((((rd x5_2 (ji30))+(Go.bits .xor .u32 (Go.bits .xor .u32 t131 t133) ((rd x5_2 (ji20)) / 8)))%4294967296)+(rd x5_2 (ji33)))%4294967296)+(Go.bits .xor .u32 (Go.bits .xor .u32 t136 t138) ((rd x5_2 (ji25)) / 1024)))%4294967296)] (fun _=>True) (fun _=>False) rfl rfl ?aP (fun _ hk=>hk.elim) ?aF ?aO ?aB ?aS ?aL ?_
                (case aP=>exact rfl)
                (case aB=>exact (by repeat (first |(with_reducible first |exact HB.out |apply below_alloc |apply pw_below_drewN |apply below_drew1) |exact HB.out)))
                (case aF=>exact (fun _ _=>trivial))
                (case aO=>exact (by (with_reducible repeat (first |apply Kd.R_alloc |apply Kd.R_drewN |apply Kd.R_drew));exact HO_5.out))
                (case aS=>exact (below_size (by repeat (first |(with_reducible first |exact HB.out |apply below_alloc |apply pw_below_drewN |apply below_drew1) |exact HB.out))))
                (case aL=>have:=LMc36.out;omega)
                intro v143 w41 ho hb hg hat;rw[<-Ny142.out] at ho;have n0_:=Aside0.mk (hb);have n1_:=Aside0.mk (ho);clear HB;clear HO_5;have HB:=n0_;have HO144:=n1_;clear n0_ n1_;clear ho hb hg hat;refine hK.out _ _ ?_;clear hK K;refine norm_ (a':=?_) ?_ ?_
                rotate_left
                ·show Act.put _ (some 120) _=_
                 simp only[Act.put,z1,z2,z3,i64_w,i32_w];rfl
                refine pj_ (v:=?_) (a':=?_) 18 (some 5) (bb 19 524287) rfl rfl HT_ (by kernel_rfl) (fun _ _ _ h=>h) (by rfl) ?_ ?_ ?_
                rotate_left;(intro w';go_simp;with_reducible rfl);rotate_left;(simp only[Act.put,z1,z2,z3,i64_w,i32_w];rfl)
                refine done_ (done_of HT_.out (by kernel_rfl)) ?_
                try go_wp2
                go_roundg k2
                case measure=>have:=HK1.out;have:=HK2.out;omega
                case rel=>exact⟨(y142),(wrap64 (x7_2+1)),(by first |rfl |(simp;done) |(simp[*];done)),H',⟨by have:=HK1.out;have:=HK2.out;omega⟩,⟨by (with_reducible repeat (first |apply Kd.R_alloc |apply Kd.R_drewN |apply Kd.R_drew));exact HO144.out⟩,⟨by repeat (first |(with_reducible first |exact HB.out |apply below_alloc |apply pw_below_drewN |apply below_drew1) |exact HB.out)⟩⟩
               ·rw[if_neg c36] at H;exact absurd H (by simp)
              ·rw[if_neg c35] at H;exact absurd H (by simp)
             ·rw[if_neg c34] at H;exact absurd H (by simp)
            ·rw[if_neg c32] at H;exact absurd H (by simp)
           ·rw[if_neg c31] at H;exact absurd H (by simp)
          ·rw[if_neg c27] at H;exact absurd H (by simp)
         ·rw[if_neg c26] at H;exact absurd H (by simp)
        ·rw[if_neg c22] at H;exact absurd H (by simp)
       ·rw[if_neg c21] at H;exact absurd H (by simp)
      ·rw[if_neg c19] at H;have c19b0:decide (x7_2<64)=false:=decide_eq_false c19;clear c19;replace H:=Option.bind_eq_some_iff.mp H;obtain⟨t145,A420,H⟩:=H;replace H:(if ([]:List Int).length+l0.length<35184372088832 then (aircheckref02_block.l2 k2 l0 x5_2 t145 (([]:List Int)++l0) 0) else (none))=some r:=H;have A42:=Aside0.mk A420;clear A420
       by_cases c43:([]:List Int).length+l0.length<35184372088832
       ·rw[if_pos c43] at H;have LMc43:=Aside0.mk c43;clear c43;obtain⟨y148,hy148⟩:∃y_:List Int,y_=(([]:List Int)++l0):=⟨_,rfl⟩
        replace H:(aircheckref02_block.l2 k2 l0 x5_2 t145 y148 0)=some r:=by first |(rw[hy148];with_reducible exact H) |(have H2_:=(Option.bind_some _ _).symm.trans H;rw[hy148];with_reducible exact H2_) |(have H2_:=(Option.bind_some _ _).symm.trans H;with_reducible exact H2_) |with_reducible exact H |(rw[hy148];exact H) |exact H
        have Ny148:=Aside0.mk hy148;clear hy148;have H':=Aside0.mk H;clear H
        go_wp2_with (first |((with_reducible refine gate_callee (f:=92) rfl ?_);refine goesL_ (some 121) rfl rfl Tryd.func92 (by kernel_rfl) rfl #[] rfl (by (try simp only[List.map_toArray,List.map_cons,List.map_nil]);first |done |rfl |(simp only[List.length_drop,List.length_take];rfl)) ?_;(with_reducible refine (aircheckref02_constants.calls t145 _ A42.out).mono ?_);rintro e w44 ⟨v146,rfl,ho0,hb⟩;refine⟨_,rfl,?_⟩;have n0_:=Aside0.mk (Kd.R_elder' (by (with_reducible repeat (first |apply Kd.R_alloc |apply Kd.R_drewN |apply Kd.R_drew));exact HO_5.out) (Kd.R_base ho0) hb);have n1_:=Aside0.mk (Kd.R_lower (Kd.R_new' ho0 (Kd.R_lt (by (with_reducible repeat (first |apply Kd.R_alloc |apply Kd.R_drewN |apply Kd.R_drew));exact HO_5.out))) (below_size (by repeat (first |(with_reducible first |exact HB.out |apply below_alloc |apply pw_below_drewN |apply below_drew1) |exact HB.out))));have n2_:=Aside0.mk (below_step (by repeat (first |(with_reducible first |exact HB.out |apply below_alloc |apply pw_below_drewN |apply below_drew1) |exact HB.out)) hb);clear HO_5;clear HB;have HO_5:=n0_;have HO147:=n1_;have HB:=n2_;clear n0_ n1_ n2_;(try clear hb);(try clear hb2);(try clear hk);(try clear hi);(try clear ho0)) |((with_reducible refine gate_builtin (b:=.append) (xs:= #[.tmp 122,.tmp 123]) rfl ?_);at_builtin;refine Kd.R_append_rows (Kd.int .u32) (w0:=w) w.heap.size rfl (.tmp 122) (.tmp 123) 118 117 (.int .u32 0) 4 rfl Tryd.underlying118 info117 rfl (by decide) (by omega) (.slice none 0 0) ([]:List Int) l0 _ _ _ (fun k_=>some k_≠(u5:Value).ownBlock∧some k_≠(v146:Value).ownBlock) (fun _=>False) rfl rfl ?aO ?aR (fun _ _ h=>h) (fun _ h=>h.elim) ?aF ?aB ?aS ?aL ?_;(case aR=>repeat (first |exact (Kd.C_below HR0.out HB.out) |(with_reducible refine Kd.C_alloc ?_ _) |(with_reducible refine Kd.C_drewN ?_ _) |(with_reducible refine Kd.C_drew ?_)));(case aB=>exact (by repeat (first |(with_reducible first |exact HB.out |apply below_alloc |apply pw_below_drewN |apply below_drew1) |exact HB.out)));(case aF=>exact (fun k_ hk=>⟨Kd.fresh' (Kd.R_lt (by (with_reducible repeat (first |apply Kd.R_alloc |apply Kd.R_drewN |apply Kd.R_drew));exact HO_5.out)) k_ hk,Kd.fresh' (Kd.R_lt (by (with_reducible repeat (first |apply Kd.R_alloc |apply Kd.R_drewN |apply Kd.R_drew));exact HO147.out)) k_ hk⟩));(case aO=>exact ((Kd.R_nil _ _ _ _ (fun k_=>some k_≠(u5:Value).ownBlock∧some k_≠(v146:Value).ownBlock))));(case aS=>exact (below_size (by repeat (first |(with_reducible first |exact HB.out |apply below_alloc |apply pw_below_drewN |apply below_drew1) |exact HB.out))));(case aL=>have:=LMc43.out;omega);intro v149 w45 ho hb hg hat;rw[<-Ny148.out] at ho;have n0_:=Aside0.mk (Kd.R_after (Kd.R_apart_nil (by (with_reducible repeat (first |apply Kd.R_alloc |apply Kd.R_drewN |apply Kd.R_drew));exact HO_5.out)) hg hat);have n1_:=Aside0.mk (Kd.R_after (Kd.R_apart_nil (by (with_reducible repeat (first |apply Kd.R_alloc |apply Kd.R_drewN |apply Kd.R_drew));exact HO147.out)) hg hat);have n2_:=Aside0.mk (hb);have n3_:=Aside0.mk (ho);clear HO_5;clear HO147;clear HB;have HO_5:=n0_;have HO147:=n1_;have HB:=n2_;have HO150:=n3_;clear n0_ n1_ n2_ n3_;clear ho hb hg hat))
        go_loopg [11,12] k2 (fun kq v11 v12 w'=>∃(x11_3:List Int) (x12_3:Int),v12=.int .i64 x12_3∧Aside0 (aircheckref02_block.l2 kq l0 x5_2 t145 x11_3 x12_3=some r)∧Aside0 (kq<=k2)∧Aside0 (Kd.R (Kd.int .u32) 117 w' w.heap.size (fun k_=>some k_≠(v146:Value).ownBlock∧some k_≠(v11:Value).ownBlock) u5 x5_2)∧Aside0 (Kd.R (Kd.int .u32) 117 w' w.heap.size (fun k_=>some k_≠(u5:Value).ownBlock∧some k_≠(v11:Value).ownBlock) v146 t145)∧Aside0 (Kd.R (Kd.int .u32) 117 w' w.heap.size (fun k_=>some k_≠(u5:Value).ownBlock∧some k_≠(v146:Value).ownBlock) v11 x11_3)∧Aside0 (Below w.heap.size w w'))
        case atStart=>exact⟨(y148),(0),(by first |rfl |(simp;done) |(simp[*];done)),H',⟨Nat.le_refl _⟩,⟨by (with_reducible repeat (first |apply Kd.R_alloc |apply Kd.R_drewN |apply Kd.R_drew));exact Kd.R_mono HO_5.out (fun _ hk=>by first |exact⟨hk.1.2,hk.2⟩ |exact⟨hk.2,hk.1⟩ |exact hk |exact⟨hk.1.1,hk.2⟩ |exact⟨hk.2,hk.1.1⟩ |exact⟨hk.2,hk.1.2⟩ |exact⟨hk.1.1,hk.1.2⟩ |exact⟨hk.1.2,hk.1.1⟩)⟩,⟨by (with_reducible repeat (first |apply Kd.R_alloc |apply Kd.R_drewN |apply Kd.R_drew));exact Kd.R_mono HO147.out (fun _ hk=>by first |exact⟨hk.1.2,hk.2⟩ |exact⟨hk.2,hk.1⟩ |exact hk |exact⟨hk.1.1,hk.2⟩ |exact⟨hk.2,hk.1.1⟩ |exact⟨hk.2,hk.1.2⟩ |exact⟨hk.1.1,hk.1.2⟩ |exact⟨hk.1.2,hk.1.1⟩)⟩,⟨by (with_reducible repeat (first |apply Kd.R_alloc |apply Kd.R_drewN |apply Kd.R_drew));exact HO150.out⟩,⟨by repeat (first |(with_reducible first |exact HB.out |apply below_alloc |apply pw_below_drewN |apply below_drew1) |exact HB.out)⟩⟩
        case round=>
         clear H'
         try clear c1
         try clear p1
         try clear q1
         try clear hx1
         try clear c2
         try clear p2
         try clear c3
         try clear c4
         try clear p6
         try clear c9
         try clear p13
         try clear q13
         try clear hx13
         try clear p14
         try clear q14
         try clear hx14
         try clear c19
         try clear c19b0
         try clear c21
         try clear c22
         try clear c26
         try clear c27
         try clear c31
         try clear c32
         try clear c34
         try clear c35
         try clear c36
         try clear c43
         try clear hx135_0
         try clear hx137_0
         try clear hx139_0
         try clear hx140_0
         try clear hx141_0
         try clear p135
         try clear p137
         try clear p139
         try clear p140
         try clear p141
         try clear q135
         try clear q137
         try clear q139
         try clear q140
         try clear q141
         obtain⟨x11_3,x12_3,rfl,HA,HK3,HO_5,HO_10,HO_11,HB⟩:=hrel
         cases gk with
         |zero=>exact absurd HA.out (by simp[aircheckref02_block.l2])
         |succ k3=>
          have H:=HA.out;clear HA;simp only[aircheckref02_block.l2] at H
          by_cases c46:x12_3<64
          ·rw[if_pos c46] at H;have c46b0:decide (x12_3<64)=true:=decide_eq_true c46;clear c46
           by_cases c47:0<(x11_3.length:Int)
           ·rw[if_pos c47] at H;have c47b0:decide (0<(x11_3.length:Int))=true:=decide_eq_true c47;have c47b1:decide (0<x11_3.length)=true:=decide_eq_true (by omega);clear c47
            by_cases c48:4<(x11_3.length:Int)
            ·rw[if_pos c48] at H;have c48b0:decide (4<(x11_3.length:Int))=true:=decide_eq_true c48;have c48b1:decide (4<x11_3.length)=true:=decide_eq_true (by omega);clear c48
             by_cases c49:7<(x11_3.length:Int)
             ·rw[if_pos c49] at H;have c49b0:decide (7<(x11_3.length:Int))=true:=decide_eq_true c49;have c49b1:decide (7<x11_3.length)=true:=decide_eq_true (by omega);clear c49;replace H:=Option.bind_eq_some_iff.mp H;obtain⟨t154,A500,H⟩:=H;replace H:((aircheckref02_rotated.f (rd x11_3 4) 11).bind fun t155=>((aircheckref02_rotated.f (rd x11_3 4) 25).bind fun t156=>(if 5<(x11_3.length:Int) then (if 6<(x11_3.length:Int) then (if 0<=x12_3 then (if x12_3<(t145.length:Int) then (if x12_3<(x5_2.length:Int) then ((aircheckref02_rotated.f (rd x11_3 0) 2).bind fun t161=>((aircheckref02_rotated.f (rd x11_3 0) 13).bind fun t162=>((aircheckref02_rotated.f (rd x11_3 0) 22).bind fun t163=>(if 1<(x11_3.length:Int) then (if 2<(x11_3.length:Int) then (if 3<(x11_3.length:Int) then (aircheckref02_block.l2 k3 l0 x5_2 t145 (([((((((((((rd x11_3 7)+(Go.bits .xor .u32 (Go.bits .xor .u32 t154 t155) t156))%4294967296)+(Go.bits .xor .u32 (Go.bits .and .u32 (rd x11_3 4) (rd x11_3 5)) (Go.bits .and .u32 (Go.bits .xor .u32 4294967295 (rd x11_3 4)) (rd x11_3 6))))%4294967296)+(rd t145 x12_3))%4294967296)+(rd x5_2 x12_3))%4294967296)+(((Go.bits .xor .u32 (Go.bits .xor .u32 t161 t162) t163)+(Go.bits .xor .u32 (Go.bits .xor .u32 (Go.bits .and .u32 (rd x11_3 0) (rd x11_3 1)) (Go.bits .and .u32 (rd x11_3 0) (rd x11_3 2))) (Go.bits .and .u32 (rd x11_3 1) (rd x11_3 2))))%4294967296))%4294967296,rd x11_3 0,rd x11_3 1,rd x11_3 2,((rd x11_3 3)+(((((((((rd x11_3 7)+(Go.bits .xor .u32 (Go.bits .xor .u32 t154 t155) t156))%4294967296)+(Go.bits .xor .u32 (Go.bits .and .u32 (rd x11_3 4) (rd x11_3 5)) (Go.bits .and .u32 (Go.bits .xor .u32 4294967295 (rd x11_3 4)) (rd x11_3 6))))%4294967296)+(rd t145 x12_3))%4294967296)+(rd x5_2 x12_3))%4294967296))%4294967296,rd x11_3 4,rd x11_3 5,rd x11_3 6]:List Int)) (wrap64 (x12_3+1))) else (none)) else (none)) else (none))))) else (none)) else (none)) else (none)) else (none)) else (none))))=some r:=H;have A50:=Aside0.mk A500;clear A500;replace H:=Option.bind_eq_some_iff.mp H;obtain⟨t155,A510,H⟩:=H;replace H:((aircheckref02_rotated.f (rd x11_3 4) 25).bind fun t156=>(if 5<(x11_3.length:Int) then (if 6<(x11_3.length:Int) then (if 0<=x12_3 then (if x12_3<(t145.length:Int) then (if x12_3<(x5_2.length:Int) then ((aircheckref02_rotated.f (rd x11_3 0) 2).bind fun t161=>((aircheckref02_rotated.f (rd x11_3 0) 13).bind fun t162=>((aircheckref02_rotated.f (rd x11_3 0) 22).bind fun t163=>(if 1<(x11_3.length:Int) then (if 2<(x11_3.length:Int) then (if 3<(x11_3.length:Int) then (aircheckref02_block.l2 k3 l0 x5_2 t145 (([((((((((((rd x11_3 7)+(Go.bits .xor .u32 (Go.bits .xor .u32 t154 t155) t156))%4294967296)+(Go.bits .xor .u32 (Go.bits .and .u32 (rd x11_3 4) (rd x11_3 5)) (Go.bits .and .u32 (Go.bits .xor .u32 4294967295 (rd x11_3 4)) (rd x11_3 6))))%4294967296)+(rd t145 x12_3))%4294967296)+(rd x5_2 x12_3))%4294967296)+(((Go.bits .xor .u32 (Go.bits .xor .u32 t161 t162) t163)+(Go.bits .xor .u32 (Go.bits .xor .u32 (Go.bits .and .u32 (rd x11_3 0) (rd x11_3 1)) (Go.bits .and .u32 (rd x11_3 0) (rd x11_3 2))) (Go.bits .and .u32 (rd x11_3 1) (rd x11_3 2))))%4294967296))%4294967296,rd x11_3 0,rd x11_3 1,rd x11_3 2,((rd x11_3 3)+(((((((((rd x11_3 7)+(Go.bits .xor .u32 (Go.bits .xor .u32 t154 t155) t156))%4294967296)+(Go.bits .xor .u32 (Go.bits .and .u32 (rd x11_3 4) (rd x11_3 5)) (Go.bits .and .u32 (Go.bits .xor .u32 4294967295 (rd x11_3 4)) (rd x11_3 6))))%4294967296)+(rd t145 x12_3))%4294967296)+(rd x5_2 x12_3))%4294967296))%4294967296,rd x11_3 4,rd x11_3 5,rd x11_3 6]:List Int)) (wrap64 (x12_3+1))) else (none)) else (none)) else (none))))) else (none)) else (none)) else (none)) else (none)) else (none)))=some r:=H;have A51:=Aside0.mk A510;clear A510;replace H:=Option.bind_eq_some_iff.mp H;obtain⟨t156,A520,H⟩:=H;replace H:(if 5<(x11_3.length:Int) then (if 6<(x11_3.length:Int) then (if 0<=x12_3 then (if x12_3<(t145.length:Int) then (if x12_3<(x5_2.length:Int) then ((aircheckref02_rotated.f (rd x11_3 0) 2).bind fun t161=>((aircheckref02_rotated.f (rd x11_3 0) 13).bind fun t162=>((aircheckref02_rotated.f (rd x11_3 0) 22).bind fun t163=>(if 1<(x11_3.length:Int) then (if 2<(x11_3.length:Int) then (if 3<(x11_3.length:Int) then (aircheckref02_block.l2 k3 l0 x5_2 t145 (([((((((((((rd x11_3 7)+(Go.bits .xor .u32 (Go.bits .xor .u32 t154 t155) t156))%4294967296)+(Go.bits .xor .u32 (Go.bits .and .u32 (rd x11_3 4) (rd x11_3 5)) (Go.bits .and .u32 (Go.bits .xor .u32 4294967295 (rd x11_3 4)) (rd x11_3 6))))%4294967296)+(rd t145 x12_3))%4294967296)+(rd x5_2 x12_3))%4294967296)+(((Go.bits .xor .u32 (Go.bits .xor .u32 t161 t162) t163)+(Go.bits .xor .u32 (Go.bits .xor .u32 (Go.bits .and .u32 (rd x11_3 0) (rd x11_3 1)) (Go.bits .and .u32 (rd x11_3 0) (rd x11_3 2))) (Go.bits .and .u32 (rd x11_3 1) (rd x11_3 2))))%4294967296))%4294967296,rd x11_3 0,rd x11_3 1,rd x11_3 2,((rd x11_3 3)+(((((((((rd x11_3 7)+(Go.bits .xor .u32 (Go.bits .xor .u32 t154 t155) t156))%4294967296)+(Go.bits .xor .u32 (Go.bits .and .u32 (rd x11_3 4) (rd x11_3 5)) (Go.bits .and .u32 (Go.bits .xor .u32 4294967295 (rd x11_3 4)) (rd x11_3 6))))%4294967296)+(rd t145 x12_3))%4294967296)+(rd x5_2 x12_3))%4294967296))%4294967296,rd x11_3 4,rd x11_3 5,rd x11_3 6]:List Int)) (wrap64 (x12_3+1))) else (none)) else (none)) else (none))))) else (none)) else (none)) else (none)) else (none)) else (none))=some r:=H
              have A52:=Aside0.mk A520;clear A520
              by_cases c53:5<(x11_3.length:Int)
              ·rw[if_pos c53] at H;have c53b0:decide (5<(x11_3.length:Int))=true:=decide_eq_true c53;have c53b1:decide (5<x11_3.length)=true:=decide_eq_true (by omega);clear c53
               by_cases c54:6<(x11_3.length:Int)
               ·rw[if_pos c54] at H;have c54b0:decide (6<(x11_3.length:Int))=true:=decide_eq_true c54;have c54b1:decide (6<x11_3.length)=true:=decide_eq_true (by omega);clear c54
                by_cases c55:0<=x12_3
                ·rw[if_pos c55] at H;have c55b0:decide (0<=x12_3)=true:=decide_eq_true c55;clear c55
                 by_cases c56:x12_3<(t145.length:Int)
                 ·rw[if_pos c56] at H;have c56b0:decide (x12_3<(t145.length:Int))=true:=decide_eq_true c56;clear c56
                  by_cases c57:x12_3<(x5_2.length:Int)
                  ·rw[if_pos c57] at H;have c57b0:decide (x12_3<(x5_2.length:Int))=true:=decide_eq_true c57;clear c57;replace H:=Option.bind_eq_some_iff.mp H;obtain⟨t161,A580,H⟩:=H;replace H:((aircheckref02_rotated.f (rd x11_3 0) 13).bind fun t162=>((aircheckref02_rotated.f (rd x11_3 0) 22).bind fun t163=>(if 1<(x11_3.length:Int) then (if 2<(x11_3.length:Int) then (if 3<(x11_3.length:Int) then (aircheckref02_block.l2 k3 l0 x5_2 t145 (([((((((((((rd x11_3 7)+(Go.bits .xor .u32 (Go.bits .xor .u32 t154 t155) t156))%4294967296)+(Go.bits .xor .u32 (Go.bits .and .u32 (rd x11_3 4) (rd x11_3 5)) (Go.bits .and .u32 (Go.bits .xor .u32 4294967295 (rd x11_3 4)) (rd x11_3 6))))%4294967296)+(rd t145 x12_3))%4294967296)+(rd x5_2 x12_3))%4294967296)+(((Go.bits .xor .u32 (Go.bits .xor .u32 t161 t162) t163)+(Go.bits .xor .u32 (Go.bits .xor .u32 (Go.bits .and .u32 (rd x11_3 0) (rd x11_3 1)) (Go.bits .and .u32 (rd x11_3 0) (rd x11_3 2))) (Go.bits .and .u32 (rd x11_3 1) (rd x11_3 2))))%4294967296))%4294967296,rd x11_3 0,rd x11_3 1,rd x11_3 2,((rd x11_3 3)+(((((((((rd x11_3 7)+(Go.bits .xor .u32 (Go.bits .xor .u32 t154 t155) t156))%4294967296)+(Go.bits .xor .u32 (Go.bits .and .u32 (rd x11_3 4) (rd x11_3 5)) (Go.bits .and .u32 (Go.bits .xor .u32 4294967295 (rd x11_3 4)) (rd x11_3 6))))%4294967296)+(rd t145 x12_3))%4294967296)+(rd x5_2 x12_3))%4294967296))%4294967296,rd x11_3 4,rd x11_3 5,rd x11_3 6]:List Int)) (wrap64 (x12_3+1))) else (none)) else (none)) else (none))))=some r:=H;have A58:=Aside0.mk A580;clear A580;replace H:=Option.bind_eq_some_iff.mp H;obtain⟨t162,A590,H⟩:=H;replace H:((aircheckref02_rotated.f (rd x11_3 0) 22).bind fun t163=>(if 1<(x11_3.length:Int) then (if 2<(x11_3.length:Int) then (if 3<(x11_3.length:Int) then (aircheckref02_block.l2 k3 l0 x5_2 t145 (([((((((((((rd x11_3 7)+(Go.bits .xor .u32 (Go.bits .xor .u32 t154 t155) t156))%4294967296)+(Go.bits .xor .u32 (Go.bits .and .u32 (rd x11_3 4) (rd x11_3 5)) (Go.bits .and .u32 (Go.bits .xor .u32 4294967295 (rd x11_3 4)) (rd x11_3 6))))%4294967296)+(rd t145 x12_3))%4294967296)+(rd x5_2 x12_3))%4294967296)+(((Go.bits .xor .u32 (Go.bits .xor .u32 t161 t162) t163)+(Go.bits .xor .u32 (Go.bits .xor .u32 (Go.bits .and .u32 (rd x11_3 0) (rd x11_3 1)) (Go.bits .and .u32 (rd x11_3 0) (rd x11_3 2))) (Go.bits .and .u32 (rd x11_3 1) (rd x11_3 2))))%4294967296))%4294967296,rd x11_3 0,rd x11_3 1,rd x11_3 2,((rd x11_3 3)+(((((((((rd x11_3 7)+(Go.bits .xor .u32 (Go.bits .xor .u32 t154 t155) t156))%4294967296)+(Go.bits .xor .u32 (Go.bits .and .u32 (rd x11_3 4) (rd x11_3 5)) (Go.bits .and .u32 (Go.bits .xor .u32 4294967295 (rd x11_3 4)) (rd x11_3 6))))%4294967296)+(rd t145 x12_3))%4294967296)+(rd x5_2 x12_3))%4294967296))%4294967296,rd x11_3 4,rd x11_3 5,rd x11_3 6]:List Int)) (wrap64 (x12_3+1))) else (none)) else (none)) else (none)))=some r:=H;have A59:=Aside0.mk A590;clear A590;replace H:=Option.bind_eq_some_iff.mp H;obtain⟨t163,A600,H⟩:=H;replace H:(if 1<(x11_3.length:Int) then (if 2<(x11_3.length:Int) then (if 3<(x11_3.length:Int) then (aircheckref02_block.l2 k3 l0 x5_2 t145 (([((((((((((rd x11_3 7)+(Go.bits .xor .u32 (Go.bits .xor .u32 t154 t155) t156))%4294967296)+(Go.bits .xor .u32 (Go.bits .and .u32 (rd x11_3 4) (rd x11_3 5)) (Go.bits .and .u32 (Go.bits .xor .u32 4294967295 (rd x11_3 4)) (rd x11_3 6))))%4294967296)+(rd t145 x12_3))%4294967296)+(rd x5_2 x12_3))%4294967296)+(((Go.bits .xor .u32 (Go.bits .xor .u32 t161 t162) t163)+(Go.bits .xor .u32 (Go.bits .xor .u32 (Go.bits .and .u32 (rd x11_3 0) (rd x11_3 1)) (Go.bits .and .u32 (rd x11_3 0) (rd x11_3 2))) (Go.bits .and .u32 (rd x11_3 1) (rd x11_3 2))))%4294967296))%4294967296,rd x11_3 0,rd x11_3 1,rd x11_3 2,((rd x11_3 3)+(((((((((rd x11_3 7)+(Go.bits .xor .u32 (Go.bits .xor .u32 t154 t155) t156))%4294967296)+(Go.bits .xor .u32 (Go.bits .and .u32 (rd x11_3 4) (rd x11_3 5)) (Go.bits .and .u32 (Go.bits .xor .u32 4294967295 (rd x11_3 4)) (rd x11_3 6))))%4294967296)+(rd t145 x12_3))%4294967296)+(rd x5_2 x12_3))%4294967296))%4294967296,rd x11_3 4,rd x11_3 5,rd x11_3 6]:List Int)) (wrap64 (x12_3+1))) else (none)) else (none)) else (none))=some r:=H
                   have A60:=Aside0.mk A600;clear A600
                   by_cases c61:1<(x11_3.length:Int)
                   ·rw[if_pos c61] at H;have c61b0:decide (1<(x11_3.length:Int))=true:=decide_eq_true c61;have c61b1:decide (1<x11_3.length)=true:=decide_eq_true (by omega);clear c61
                    by_cases c62:2<(x11_3.length:Int)
                    ·rw[if_pos c62] at H;have c62b0:decide (2<(x11_3.length:Int))=true:=decide_eq_true c62;have c62b1:decide (2<x11_3.length)=true:=decide_eq_true (by omega);clear c62
                     by_cases c63:3<(x11_3.length:Int)
                     ·rw[if_pos c63] at H;have c63b0:decide (3<(x11_3.length:Int))=true:=decide_eq_true c63;have c63b1:decide (3<x11_3.length)=true:=decide_eq_true (by omega);clear c63;obtain⟨y173,hy173⟩:∃y_:List Int,y_=(([((((((((((rd x11_3 7)+(Go.bits .xor .u32 (Go.bits .xor .u32 t154 t155) t156))%4294967296)+(Go.bits .xor .u32 (Go.bits .and .u32 (rd x11_3 4) (rd x11_3 5)) (Go.bits .and .u32 (Go.bits .xor .u32 4294967295 (rd x11_3 4)) (rd x11_3 6))))%4294967296)+(rd t145 x12_3))%4294967296)+(rd x5_2 x12_3))%4294967296)+(((Go.bits .xor .u32 (Go.bits .xor .u32 t161 t162) t163)+(Go.bits .xor .u32 (Go.bits .xor .u32 (Go.bits .and .u32 (rd x11_3 0) (rd x11_3 1)) (Go.bits .and .u32 (rd x11_3 0) (rd x11_3 2))) (Go.bits .and .u32 (rd x11_3 1) (rd x11_3 2))))%4294967296))%4294967296,rd x11_3 0,rd x11_3 1,rd x11_3 2,((rd x11_3 3)+(((((((((rd x11_3 7)+(Go.bits .xor .u32 (Go.bits .xor .u32 t154 t155) t156))%4294967296)+(Go.bits .xor .u32 (Go.bits .and .u32 (rd x11_3 4) (rd x11_3 5)) (Go.bits .and .u32 (Go.bits .xor .u32 4294967295 (rd x11_3 4)) (rd x11_3 6))))%4294967296)+(rd t145 x12_3))%4294967296)+(rd x5_2 x12_3))%4294967296))%4294967296,rd x11_3 4,rd x11_3 5,rd x11_3 6]:List Int)):=⟨_,rfl⟩
                      replace H:(aircheckref02_block.l2 k3 l0 x5_2 t145 y173 (wrap64 (x12_3+1)))=some r:=by first |(rw[hy173];with_reducible exact H) |(have H2_:=(Option.bind_some _ _).symm.trans H;rw[hy173];with_reducible exact H2_) |(have H2_:=(Option.bind_some _ _).symm.trans H;with_reducible exact H2_) |with_reducible exact H |(rw[hy173];exact H) |exact H
                      have Ny173:=Aside0.mk hy173;clear hy173;have H':=Aside0.mk H;clear H;obtain⟨Ao64,co64,eo64⟩:=Kd.R_slice HO_11.out;subst eo64;have p151:0<=(0:Int):=(by omega);have q151:0<(x11_3.length:Int):=of_decide_eq_true (by first |(with_reducible assumption) |assumption);obtain⟨ad151,e151,hx151_0⟩:=Kd.at_int (Kd.R_reads' HO_11.out).2.2 0 p151 q151
                      cases e151
                      have qi151:(0<x11_3.length)=True:=eq_true (by omega)
                      (try rw[show ((0:Int)).toNat=0 from rfl] at hx151_0)
                      (try rw[Addr.add_zero'] at hx151_0)
                      replace p151:=eq_true p151;replace q151:=eq_true q151;have p152:0<=(4:Int):=(by omega);have q152:4<(x11_3.length:Int):=of_decide_eq_true (by first |(with_reducible assumption) |assumption);obtain⟨ad152,e152,hx152_0⟩:=Kd.at_int (Kd.R_reads' HO_11.out).2.2 4 p152 q152;obtain rfl:ad151=ad152:=(by injection e152)
                      (try simp only[show (4:Int).toNat=4 from rfl,Nat.reduceMul,Nat.reduceEqDiff,Go.Addr.add, ↓reduceIte] at hx152_0)
                      have qi152:(4<x11_3.length)=True:=eq_true (by omega)
                      (try rw[show ((4:Int)).toNat=4 from rfl] at hx152_0)
                      replace p152:=eq_true p152;replace q152:=eq_true q152
                      try go_wp2
                      have n0_:=Aside0.mk (Kd.R_drew HO_5.out);have n1_:=Aside0.mk (Kd.R_drew HO_10.out);have n2_:=Aside0.mk (Kd.R_drew HO_11.out);have n3_:=Aside0.mk (below_drew1 HB.out);clear HO_5;clear HO_10;clear HO_11;clear HB;have HO_5:=n0_;have HO_10:=n1_;have HO_11:=n2_;have HB:=n3_;clear n0_ n1_ n2_ n3_;have p153:0<=(7:Int):=(by omega);have q153:7<(x11_3.length:Int):=of_decide_eq_true (by first |(with_reducible assumption) |assumption);obtain⟨ad153,e153,hx153_0⟩:=Kd.at_int (Kd.R_reads' HO_11.out).2.2 7 p153 q153;obtain rfl:ad151=ad153:=(by injection e153)
                      (try simp only[show (7:Int).toNat=7 from rfl,Nat.reduceMul,Nat.reduceEqDiff,Go.Addr.add, ↓reduceIte] at hx153_0)
                      have qi153:(7<x11_3.length)=True:=eq_true (by omega)
                      (try rw[show ((7:Int)).toNat=7 from rfl] at hx153_0)
                      replace p153:=eq_true p153;replace q153:=eq_true q153;have p157:0<=(5:Int):=(by omega);have q157:5<(x11_3.length:Int):=of_decide_eq_true (by first |(with_reducible assumption) |assumption);obtain⟨ad157,e157,hx157_0⟩:=Kd.at_int (Kd.R_reads' HO_11.out).2.2 5 p157 q157;obtain rfl:ad151=ad157:=(by injection e157)
                      (try simp only[show (5:Int).toNat=5 from rfl,Nat.reduceMul,Nat.reduceEqDiff,Go.Addr.add, ↓reduceIte] at hx157_0)
                      have qi157:(5<x11_3.length)=True:=eq_true (by omega)
                      (try rw[show ((5:Int)).toNat=5 from rfl] at hx157_0)
                      replace p157:=eq_true p157;replace q157:=eq_true q157;have p158:0<=(6:Int):=(by omega);have q158:6<(x11_3.length:Int):=of_decide_eq_true (by first |(with_reducible assumption) |assumption);obtain⟨ad158,e158,hx158_0⟩:=Kd.at_int (Kd.R_reads' HO_11.out).2.2 6 p158 q158;obtain rfl:ad151=ad158:=(by injection e158)
                      (try simp only[show (6:Int).toNat=6 from rfl,Nat.reduceMul,Nat.reduceEqDiff,Go.Addr.add, ↓reduceIte] at hx158_0)
                      have qi158:(6<x11_3.length)=True:=eq_true (by omega)
                      (try rw[show ((6:Int)).toNat=6 from rfl] at hx158_0)
                      replace p158:=eq_true p158;replace q158:=eq_true q158;obtain⟨Ao66,co66,eo66⟩:=Kd.R_slice HO_10.out
                      (first |subst eo66 |(injection eo66 with f1_ f2_ f3_;have f4_:=f1_.symm;have f5_:=f3_.symm;clear f1_ f2_ f3_;subst f4_;subst f5_))
                      have p159:0<=(x12_3:Int):=of_decide_eq_true (by first |(with_reducible assumption) |assumption);have q159:x12_3<(t145.length:Int):=of_decide_eq_true (by first |(with_reducible assumption) |assumption);obtain⟨ad159,e159,hx159_0⟩:=Kd.at_int (Kd.R_reads' HO_10.out).2.2 x12_3 p159 q159
                      cases e159
                      replace p159:=eq_true p159;replace q159:=eq_true q159;obtain⟨Ao67,co67,eo67⟩:=Kd.R_slice HO_5.out
                      (first |subst eo67 |(injection eo67 with f1_ f2_ f3_;have f4_:=f1_.symm;have f5_:=f3_.symm;clear f1_ f2_ f3_;subst f4_;subst f5_))
                      have p160:0<=(x12_3:Int):=of_decide_eq_true (by first |(with_reducible assumption) |assumption);have q160:x12_3<(x5_2.length:Int):=of_decide_eq_true (by first |(with_reducible assumption) |assumption);obtain⟨ad160,e160,hx160_0⟩:=Kd.at_int (Kd.R_reads' HO_5.out).2.2 x12_3 p160 q160
                      cases e160
                      replace p160:=eq_true p160;replace q160:=eq_true q160;refine start_ (n:=36) (S:=fun w'=>w'.cell? ⟨ad151.block,ad151.off+7,none⟩=some (.int .u32 (rd x11_3 7))∧w'.cell? ⟨ad151.block,ad151.off+5,none⟩=some (.int .u32 (rd x11_3 5))∧w'.cell? ⟨ad151.block,ad151.off+6,none⟩=some (.int .u32 (rd x11_3 6))∧w'.cell? (ad159.add (x12_3).toNat)=some (.int .u32 (rd t145 x12_3))∧w'.cell? (ad160.add (x12_3).toNat)=some (.int .u32 (rd x5_2 x12_3))) (ds:=[]) (bb 36 0) (by kernel_rfl) rfl rfl ⟨hx153_0,hx157_0,hx158_0,hx159_0,hx160_0⟩ (fun hHeld=>?_);refine with_tabW aircheckref02_block.tab20 aircheckref02_block.bits20 (fun HT_ HW_=>?_);generalize wr.drew=w65 at HO_5 HO_10 HO_11 HB hx153_0 hx157_0 hx158_0 hx159_0 hx160_0 hHeld ⊢;refine run_ [.p 0,.p 1,.p 3,.p 5,.p 8,.p 12,.p 13,.p 14,.p 17,.p 18,.p 19,.p 20,.p 25,.p 26,.p 27,.p 30,.p 31,.p 32,.t 2,.t 15,.p 16,.t 21,.p 22,.p 23,.t 28,.t 33] ?_
                      repeat (first |(refine pk_ (v:=?_) (a':=?_) rfl rfl HT_ (by kernel_rfl) (fun _ _ _ h=>h) (by rfl) ?_ ?_ ?_;rotate_left;(intro w';go_simp;with_reducible rfl);rotate_left;(simp only[Act.put,z1,z2,z3,i64_w,i32_w];rfl)) |(refine tk_ (v:=?_) (a':=?_) rfl rfl HT_ HW_ (by kernel_rfl) (fun _ _ _ h=>h) (by rfl) hHeld ?_ ?_ ?_;rotate_left;(rintro w' ⟨s0,s1,s2,s3,s4⟩;go_simp;with_reducible rfl);rotate_left;(simp only[Act.put,z1,z2,z3,i64_w,i32_w];rfl)) |fail)
                      refine ran_ (m':=16626217263) rfl ?_;refine one_ (i:=4) (N:=some 139) (bb 36 16626217279) rfl rfl (one_of HT_.out (by kernel_rfl)) (by decide) (fun K hK=>?_);refine goes_ Tryd.func91 (by kernel_rfl) rfl #[.int .u32 (rd x11_3 4),.int .i64 6] (by rfl) rfl rfl (by (try simp only[List.map_toArray,List.map_cons,List.map_nil]);first |done |rfl |(simp only[List.length_drop,List.length_take];rfl)) ?_
                      with_reducible refine (aircheckref02_rotated.calls (rd x11_3 4) 6 t154 _ A50.out).mono ?_
                      rintro e w' ⟨rfl,⟨nd,rfl⟩⟩
                      refine⟨_,rfl,?_⟩;refine hK.out _ _ ⟨hHeld.1,hHeld.2.1,hHeld.2.2.1,hHeld.2.2.2.1,hHeld.2.2.2.2⟩ (fun hHeld=>?_);clear hK K;refine norm_ (a':=?_) ?_ ?_
                      rotate_left
                      ·show Act.put _ (some 139) _=_
                       simp only[Act.put,z1,z2,z3,i64_w,i32_w];rfl
                      refine one_ (i:=6) (N:=some 141) (bb 36 16626217343) rfl rfl (one_of HT_.out (by kernel_rfl)) (by decide) (fun K hK=>?_);refine goes_ Tryd.func91 (by kernel_rfl) rfl #[.int .u32 (rd x11_3 4),.int .i64 11] (by rfl) rfl rfl (by (try simp only[List.map_toArray,List.map_cons,List.map_nil]);first |done |rfl |(simp only[List.length_drop,List.length_take];rfl)) ?_
                      with_reducible refine (aircheckref02_rotated.calls (rd x11_3 4) 11 t155 _ A51.out).mono ?_
                      rintro e w' ⟨rfl,⟨nd,rfl⟩⟩
                      refine⟨_,rfl,?_⟩;refine hK.out _ _ ⟨hHeld.1,hHeld.2.1,hHeld.2.2.1,hHeld.2.2.2.1,hHeld.2.2.2.2⟩ (fun hHeld=>?_);clear hK K;refine norm_ (a':=?_) ?_ ?_
                      rotate_left
                      ·show Act.put _ (some 141) _=_
                       simp only[Act.put,z1,z2,z3,i64_w,i32_w];rfl
                      refine pj_ (v:=?_) (a':=?_) 7 (some 142) (bb 36 16626217471) rfl rfl HT_ (by kernel_rfl) (fun _ _ _ h=>h) (by rfl) ?_ ?_ ?_
                      rotate_left;(intro w';go_simp;with_reducible rfl);rotate_left;(simp only[Act.put,z1,z2,z3,i64_w,i32_w];rfl)
                      refine one_ (i:=9) (N:=some 144) (bb 36 16626217983) rfl rfl (one_of HT_.out (by kernel_rfl)) (by decide) (fun K hK=>?_);refine goes_ Tryd.func91 (by kernel_rfl) rfl #[.int .u32 (rd x11_3 4),.int .i64 25] (by rfl) rfl rfl (by (try simp only[List.map_toArray,List.map_cons,List.map_nil]);first |done |rfl |(simp only[List.length_drop,List.length_take];rfl)) ?_
                      with_reducible refine (aircheckref02_rotated.calls (rd x11_3 4) 25 t156 _ A52.out).mono ?_
                      rintro e w' ⟨rfl,⟨nd,rfl⟩⟩
                      refine⟨_,rfl,?_⟩;refine hK.out _ _ ⟨hHeld.1,hHeld.2.1,hHeld.2.2.1,hHeld.2.2.2.1,hHeld.2.2.2.2⟩ (fun hHeld=>?_);clear hK K;refine norm_ (a':=?_) ?_ ?_
                      rotate_left
                      ·show Act.put _ (some 144) _=_
                       simp only[Act.put,z1,z2,z3,i64_w,i32_w];rfl
                      refine run_ [.p 10,.p 11,.p 24,.p 29,.p 34,.p 35] ?_
                      repeat (first |(refine pk_ (v:=?_) (a':=?_) rfl rfl HT_ (by kernel_rfl) (fun _ _ _ h=>h) (by rfl) ?_ ?_ ?_;rotate_left;(intro w';go_simp;with_reducible rfl);rotate_left;(simp only[Act.put,z1,z2,z3,i64_w,i32_w];rfl)) |fail)
                      refine ran_ (m':=68719476735) rfl ?_;refine done_ (done_of HT_.out (by kernel_rfl)) ?_
                      try go_wp2
                      (try (rw[drewN_self w65];generalize hq_:World.drewN w65 _=w65;have n0_:Aside0 (Kd.R (Kd.int .u32) 117 w65 w.heap.size (fun k_=>some k_≠(.slice (some ad151) x11_3.length co64:Value).ownBlock∧some k_≠(.slice (some ad160) x5_2.length co67:Value).ownBlock) (.slice (some ad159) t145.length co66) t145):=⟨by rw[<-hq_];exact (by (with_reducible repeat (first |apply Kd.R_alloc |apply Kd.R_drewN |apply Kd.R_drew));exact Kd.R_mono HO_10.out (fun _ hk=>by first |exact⟨hk.2,hk.1⟩ |exact hk |exact⟨hk.1.1,hk.2⟩ |exact⟨hk.1.2,hk.2⟩ |exact⟨hk.2,hk.1.1⟩ |exact⟨hk.2,hk.1.2⟩ |exact⟨hk.1.1,hk.1.2⟩ |exact⟨hk.1.2,hk.1.1⟩))⟩;have n1_:Aside0 (Kd.R (Kd.int .u32) 117 w65 w.heap.size (fun k_=>some k_≠(.slice (some ad159) t145.length co66:Value).ownBlock∧some k_≠(.slice (some ad160) x5_2.length co67:Value).ownBlock) (.slice (some ad151) x11_3.length co64) x11_3):=⟨by rw[<-hq_];exact (by (with_reducible repeat (first |apply Kd.R_alloc |apply Kd.R_drewN |apply Kd.R_drew));exact Kd.R_mono HO_11.out (fun _ hk=>by first |exact⟨hk.2,hk.1⟩ |exact hk |exact⟨hk.1.1,hk.2⟩ |exact⟨hk.1.2,hk.2⟩ |exact⟨hk.2,hk.1.1⟩ |exact⟨hk.2,hk.1.2⟩ |exact⟨hk.1.1,hk.1.2⟩ |exact⟨hk.1.2,hk.1.1⟩))⟩;have n2_:Aside0 (Kd.R (Kd.int .u32) 117 w65 w.heap.size (fun k_=>some k_≠(.slice (some ad159) t145.length co66:Value).ownBlock∧some k_≠(.slice (some ad151) x11_3.length co64:Value).ownBlock) (.slice (some ad160) x5_2.length co67) x5_2):=⟨by rw[<-hq_];exact (by (with_reducible repeat (first |apply Kd.R_alloc |apply Kd.R_drewN |apply Kd.R_drew));exact HO_5.out)⟩;have n3_:Aside0 (Below w.heap.size w w65):=⟨by rw[<-hq_];exact (by repeat (first |(with_reducible first |exact HB.out |apply below_alloc |apply pw_below_drewN |apply below_drew1) |exact HB.out))⟩;clear HO_10 HO_11 HO_5 HB hq_;have HO_10:=n0_;have HO_11:=n1_;have HO_5:=n2_;have HB:=n3_;clear n0_ n1_ n2_ n3_))
                      have n0_:=Aside0.mk (Kd.R_drew HO_5.out);have n1_:=Aside0.mk (Kd.R_drew HO_10.out);have n2_:=Aside0.mk (Kd.R_drew HO_11.out);have n3_:=Aside0.mk (below_drew1 HB.out);clear HO_5;clear HO_10;clear HO_11;clear HB;have HO_5:=n0_;have HO_10:=n1_;have HO_11:=n2_;have HB:=n3_;clear n0_ n1_ n2_ n3_;have p164:0<=(1:Int):=(by omega);have q164:1<(x11_3.length:Int):=of_decide_eq_true (by first |(with_reducible assumption) |assumption);obtain⟨ad164,e164,hx164_0⟩:=Kd.at_int (Kd.R_reads' HO_11.out).2.2 1 p164 q164;obtain rfl:ad151=ad164:=(by injection e164)
                      (try simp only[show (1:Int).toNat=1 from rfl,Nat.reduceMul,Nat.reduceEqDiff,Go.Addr.add, ↓reduceIte] at hx164_0)
                      have qi164:(1<x11_3.length)=True:=eq_true (by omega)
                      (try rw[show ((1:Int)).toNat=1 from rfl] at hx164_0)
                      replace p164:=eq_true p164;replace q164:=eq_true q164;have p165:0<=(2:Int):=(by omega);have q165:2<(x11_3.length:Int):=of_decide_eq_true (by first |(with_reducible assumption) |assumption);obtain⟨ad165,e165,hx165_0⟩:=Kd.at_int (Kd.R_reads' HO_11.out).2.2 2 p165 q165;obtain rfl:ad151=ad165:=(by injection e165)
                      (try simp only[show (2:Int).toNat=2 from rfl,Nat.reduceMul,Nat.reduceEqDiff,Go.Addr.add, ↓reduceIte] at hx165_0)
                      have qi165:(2<x11_3.length)=True:=eq_true (by omega)
                      (try rw[show ((2:Int)).toNat=2 from rfl] at hx165_0)
                      replace p165:=eq_true p165;replace q165:=eq_true q165;have p166:0<=(1:Int):=(by omega);have q166:1<(x11_3.length:Int):=of_decide_eq_true (by first |(with_reducible assumption) |assumption);obtain⟨ad166,e166,hx166_0⟩:=Kd.at_int (Kd.R_reads' HO_11.out).2.2 1 p166 q166;obtain rfl:ad151=ad166:=(by injection e166)
                      (try simp only[show (1:Int).toNat=1 from rfl,Nat.reduceMul,Nat.reduceEqDiff,Go.Addr.add, ↓reduceIte] at hx166_0)
                      have qi166:(1<x11_3.length)=True:=eq_true (by omega)
                      (try rw[show ((1:Int)).toNat=1 from rfl] at hx166_0)
                      replace p166:=eq_true p166;replace q166:=eq_true q166;have p167:0<=(2:Int):=(by omega);have q167:2<(x11_3.length:Int):=of_decide_eq_true (by first |(with_reducible assumption) |assumption);obtain⟨ad167,e167,hx167_0⟩:=Kd.at_int (Kd.R_reads' HO_11.out).2.2 2 p167 q167;obtain rfl:ad151=ad167:=(by injection e167)
                      (try simp only[show (2:Int).toNat=2 from rfl,Nat.reduceMul,Nat.reduceEqDiff,Go.Addr.add, ↓reduceIte] at hx167_0)
                      have qi167:(2<x11_3.length)=True:=eq_true (by omega)
                      (try rw[show ((2:Int)).toNat=2 from rfl] at hx167_0)
                      replace p167:=eq_true p167;replace q167:=eq_true q167;refine start_ (n:=29) (S:=fun w'=>w'.cell? ⟨ad151.block,ad151.off+1,none⟩=some (.int .u32 (rd x11_3 1))∧w'.cell? ⟨ad151.block,ad151.off+2,none⟩=some (.int .u32 (rd x11_3 2))∧w'.cell? ⟨ad151.block,ad151.off+1,none⟩=some (.int .u32 (rd x11_3 1))∧w'.cell? ⟨ad151.block,ad151.off+2,none⟩=some (.int .u32 (rd x11_3 2))) (ds:=[]) (bb 29 0) (by kernel_rfl) rfl rfl ⟨hx164_0,hx165_0,hx166_0,hx167_0⟩ (fun hHeld=>?_);refine with_tabW aircheckref02_block.tab21 aircheckref02_block.bits21 (fun HT_ HW_=>?_);generalize w65.drew=w68 at HO_5 HO_10 HO_11 HB hx164_0 hx165_0 hx166_0 hx167_0 hHeld ⊢;refine run_ [.p 0,.p 2,.p 5,.p 8,.p 9,.p 10,.p 13,.p 14,.p 15,.p 19,.p 20,.p 22,.p 23,.t 11,.p 12,.t 16,.p 17,.p 18,.t 21,.t 24,.p 25,.p 26] ?_
                      repeat (first |(refine pk_ (v:=?_) (a':=?_) rfl rfl HT_ (by kernel_rfl) (fun _ _ _ h=>h) (by rfl) ?_ ?_ ?_;rotate_left;(intro w';go_simp;with_reducible rfl);rotate_left;(simp only[Act.put,z1,z2,z3,i64_w,i32_w];rfl)) |(refine tk_ (v:=?_) (a':=?_) rfl rfl HT_ HW_ (by kernel_rfl) (fun _ _ _ h=>h) (by rfl) hHeld ?_ ?_ ?_;rotate_left;(rintro w' ⟨s0,s1,s2,s3⟩;go_simp;with_reducible rfl);rotate_left;(simp only[Act.put,z1,z2,z3,i64_w,i32_w];rfl)) |fail)
                      refine ran_ (m':=134217509) rfl ?_;refine one_ (i:=1) (N:=some 171) (bb 29 134217511) rfl rfl (one_of HT_.out (by kernel_rfl)) (by decide) (fun K hK=>?_);refine goes_ Tryd.func91 (by kernel_rfl) rfl #[.int .u32 (rd x11_3 0),.int .i64 2] (by rfl) rfl rfl (by (try simp only[List.map_toArray,List.map_cons,List.map_nil]);first |done |rfl |(simp only[List.length_drop,List.length_take];rfl)) ?_
                      with_reducible refine (aircheckref02_rotated.calls (rd x11_3 0) 2 t161 _ A58.out).mono ?_
                      rintro e w' ⟨rfl,⟨nd,rfl⟩⟩
                      refine⟨_,rfl,?_⟩;refine hK.out _ _ ⟨hHeld.1,hHeld.2.1,hHeld.2.2.1,hHeld.2.2.2⟩ (fun hHeld=>?_);clear hK K;refine norm_ (a':=?_) ?_ ?_
                      rotate_left
                      ·show Act.put _ (some 171) _=_
                       simp only[Act.put,z1,z2,z3,i64_w,i32_w];rfl
                      refine one_ (i:=3) (N:=some 173) (bb 29 134217519) rfl rfl (one_of HT_.out (by kernel_rfl)) (by decide) (fun K hK=>?_);refine goes_ Tryd.func91 (by kernel_rfl) rfl #[.int .u32 (rd x11_3 0),.int .i64 13] (by rfl) rfl rfl (by (try simp only[List.map_toArray,List.map_cons,List.map_nil]);first |done |rfl |(simp only[List.length_drop,List.length_take];rfl)) ?_
                      with_reducible refine (aircheckref02_rotated.calls (rd x11_3 0) 13 t162 _ A59.out).mono ?_
                      rintro e w' ⟨rfl,⟨nd,rfl⟩⟩
                      refine⟨_,rfl,?_⟩;refine hK.out _ _ ⟨hHeld.1,hHeld.2.1,hHeld.2.2.1,hHeld.2.2.2⟩ (fun hHeld=>?_);clear hK K;refine norm_ (a':=?_) ?_ ?_
                      rotate_left
                      ·show Act.put _ (some 173) _=_
                       simp only[Act.put,z1,z2,z3,i64_w,i32_w];rfl
                      refine pj_ (v:=?_) (a':=?_) 4 (some 174) (bb 29 134217535) rfl rfl HT_ (by kernel_rfl) (fun _ _ _ h=>h) (by rfl) ?_ ?_ ?_
                      rotate_left;(intro w';go_simp;with_reducible rfl);rotate_left;(simp only[Act.put,z1,z2,z3,i64_w,i32_w];rfl)
                      refine one_ (i:=6) (N:=some 176) (bb 29 134217599) rfl rfl (one_of HT_.out (by kernel_rfl)) (by decide) (fun K hK=>?_);refine goes_ Tryd.func91 (by kernel_rfl) rfl #[.int .u32 (rd x11_3 0),.int .i64 22] (by rfl) rfl rfl (by (try simp only[List.map_toArray,List.map_cons,List.map_nil]);first |done |rfl |(simp only[List.length_drop,List.length_take];rfl)) ?_
                      with_reducible refine (aircheckref02_rotated.calls (rd x11_3 0) 22 t163 _ A60.out).mono ?_
                      rintro e w' ⟨rfl,⟨nd,rfl⟩⟩
                      refine⟨_,rfl,?_⟩;refine hK.out _ _ ⟨hHeld.1,hHeld.2.1,hHeld.2.2.1,hHeld.2.2.2⟩ (fun hHeld=>?_);clear hK K;refine norm_ (a':=?_) ?_ ?_
                      rotate_left
                      ·show Act.put _ (some 176) _=_
                       simp only[Act.put,z1,z2,z3,i64_w,i32_w];rfl
                      refine run_ [.p 7,.p 27,.p 28] ?_
                      repeat (first |(refine pk_ (v:=?_) (a':=?_) rfl rfl HT_ (by kernel_rfl) (fun _ _ _ h=>h) (by rfl) ?_ ?_ ?_;rotate_left;(intro w';go_simp;with_reducible rfl);rotate_left;(simp only[Act.put,z1,z2,z3,i64_w,i32_w];rfl)) |fail)
                      refine ran_ (m':=536870911) rfl ?_;refine done_ (done_of HT_.out (by kernel_rfl)) ?_
                      try go_wp2
                      (try (rw[drewN_self w68];generalize hq_:World.drewN w68 _=w68;have n0_:Aside0 (Kd.R (Kd.int .u32) 117 w68 w.heap.size (fun k_=>some k_≠(.slice (some ad151) x11_3.length co64:Value).ownBlock∧some k_≠(.slice (some ad160) x5_2.length co67:Value).ownBlock) (.slice (some ad159) t145.length co66) t145):=⟨by rw[<-hq_];exact (by (with_reducible repeat (first |apply Kd.R_alloc |apply Kd.R_drewN |apply Kd.R_drew));exact Kd.R_mono HO_10.out (fun _ hk=>by first |exact⟨hk.2,hk.1⟩ |exact hk |exact⟨hk.1.1,hk.2⟩ |exact⟨hk.1.2,hk.2⟩ |exact⟨hk.2,hk.1.1⟩ |exact⟨hk.2,hk.1.2⟩ |exact⟨hk.1.1,hk.1.2⟩ |exact⟨hk.1.2,hk.1.1⟩))⟩;have n1_:Aside0 (Kd.R (Kd.int .u32) 117 w68 w.heap.size (fun k_=>some k_≠(.slice (some ad159) t145.length co66:Value).ownBlock∧some k_≠(.slice (some ad160) x5_2.length co67:Value).ownBlock) (.slice (some ad151) x11_3.length co64) x11_3):=⟨by rw[<-hq_];exact (by (with_reducible repeat (first |apply Kd.R_alloc |apply Kd.R_drewN |apply Kd.R_drew));exact Kd.R_mono HO_11.out (fun _ hk=>by first |exact⟨hk.2,hk.1⟩ |exact hk |exact⟨hk.1.1,hk.2⟩ |exact⟨hk.1.2,hk.2⟩ |exact⟨hk.2,hk.1.1⟩ |exact⟨hk.2,hk.1.2⟩ |exact⟨hk.1.1,hk.1.2⟩ |exact⟨hk.1.2,hk.1.1⟩))⟩;have n2_:Aside0 (Kd.R (Kd.int .u32) 117 w68 w.heap.size (fun k_=>some k_≠(.slice (some ad159) t145.length co66:Value).ownBlock∧some k_≠(.slice (some ad151) x11_3.length co64:Value).ownBlock) (.slice (some ad160) x5_2.length co67) x5_2):=⟨by rw[<-hq_];exact (by (with_reducible repeat (first |apply Kd.R_alloc |apply Kd.R_drewN |apply Kd.R_drew));exact HO_5.out)⟩;have n3_:Aside0 (Below w.heap.size w w68):=⟨by rw[<-hq_];exact (by repeat (first |(with_reducible first |exact HB.out |apply below_alloc |apply pw_below_drewN |apply below_drew1) |exact HB.out))⟩;clear HO_10 HO_11 HO_5 HB hq_;have HO_10:=n0_;have HO_11:=n1_;have HO_5:=n2_;have HB:=n3_;clear n0_ n1_ n2_ n3_))
                      have n0_:=Aside0.mk (Kd.R_drew HO_5.out);have n1_:=Aside0.mk (Kd.R_drew HO_10.out);have n2_:=Aside0.mk (Kd.R_drew HO_11.out);have n3_:=Aside0.mk (below_drew1 HB.out);clear HO_5;clear HO_10;clear HO_11;clear HB;have HO_5:=n0_;have HO_10:=n1_;have HO_11:=n2_;have HB:=n3_;clear n0_ n1_ n2_ n3_;have p168:0<=(1:Int):=(by omega);have q168:1<(x11_3.length:Int):=of_decide_eq_true (by first |(with_reducible assumption) |assumption);obtain⟨ad168,e168,hx168_0⟩:=Kd.at_int (Kd.R_reads' HO_11.out).2.2 1 p168 q168;obtain rfl:ad151=ad168:=(by injection e168)
                      (try simp only[show (1:Int).toNat=1 from rfl,Nat.reduceMul,Nat.reduceEqDiff,Go.Addr.add, ↓reduceIte] at hx168_0)
                      have qi168:(1<x11_3.length)=True:=eq_true (by omega)
                      (try rw[show ((1:Int)).toNat=1 from rfl] at hx168_0)
                      replace p168:=eq_true p168;replace q168:=eq_true q168;have p169:0<=(2:Int):=(by omega);have q169:2<(x11_3.length:Int):=of_decide_eq_true (by first |(with_reducible assumption) |assumption);obtain⟨ad169,e169,hx169_0⟩:=Kd.at_int (Kd.R_reads' HO_11.out).2.2 2 p169 q169;obtain rfl:ad151=ad169:=(by injection e169)
                      (try simp only[show (2:Int).toNat=2 from rfl,Nat.reduceMul,Nat.reduceEqDiff,Go.Addr.add, ↓reduceIte] at hx169_0)
                      have qi169:(2<x11_3.length)=True:=eq_true (by omega)
                      (try rw[show ((2:Int)).toNat=2 from rfl] at hx169_0)
                      replace p169:=eq_true p169;replace q169:=eq_true q169;have p170:0<=(3:Int):=(by omega);have q170:3<(x11_3.length:Int):=of_decide_eq_true (by first |(with_reducible assumption) |assumption);obtain⟨ad170,e170,hx170_0⟩:=Kd.at_int (Kd.R_reads' HO_11.out).2.2 3 p170 q170;obtain rfl:ad151=ad170:=(by injection e170)
                      (try simp only[show (3:Int).toNat=3 from rfl,Nat.reduceMul,Nat.reduceEqDiff,Go.Addr.add, ↓reduceIte] at hx170_0)
                      have qi170:(3<x11_3.length)=True:=eq_true (by omega)
                      (try rw[show ((3:Int)).toNat=3 from rfl] at hx170_0)
                      replace p170:=eq_true p170;replace q170:=eq_true q170;have p171:0<=(5:Int):=(by omega);have q171:5<(x11_3.length:Int):=of_decide_eq_true (by first |(with_reducible assumption) |assumption);obtain⟨ad171,e171,hx171_0⟩:=Kd.at_int (Kd.R_reads' HO_11.out).2.2 5 p171 q171;obtain rfl:ad151=ad171:=(by injection e171)
                      (try simp only[show (5:Int).toNat=5 from rfl,Nat.reduceMul,Nat.reduceEqDiff,Go.Addr.add, ↓reduceIte] at hx171_0)
                      have qi171:(5<x11_3.length)=True:=eq_true (by omega)
                      (try rw[show ((5:Int)).toNat=5 from rfl] at hx171_0)
                      replace p171:=eq_true p171;replace q171:=eq_true q171;have p172:0<=(6:Int):=(by omega);have q172:6<(x11_3.length:Int):=of_decide_eq_true (by first |(with_reducible assumption) |assumption);obtain⟨ad172,e172,hx172_0⟩:=Kd.at_int (Kd.R_reads' HO_11.out).2.2 6 p172 q172;obtain rfl:ad151=ad172:=(by injection e172)
                      (try simp only[show (6:Int).toNat=6 from rfl,Nat.reduceMul,Nat.reduceEqDiff,Go.Addr.add, ↓reduceIte] at hx172_0)
                      have qi172:(6<x11_3.length)=True:=eq_true (by omega)
                      (try rw[show ((6:Int)).toNat=6 from rfl] at hx172_0)
                      replace p172:=eq_true p172;replace q172:=eq_true q172;refine start_ (n:=24) (S:=fun w'=>w'.cell? ⟨ad151.block,ad151.off+1,none⟩=some (.int .u32 (rd x11_3 1))∧w'.cell? ⟨ad151.block,ad151.off+2,none⟩=some (.int .u32 (rd x11_3 2))∧w'.cell? ⟨ad151.block,ad151.off+3,none⟩=some (.int .u32 (rd x11_3 3))∧w'.cell? ⟨ad151.block,ad151.off+5,none⟩=some (.int .u32 (rd x11_3 5))∧w'.cell? ⟨ad151.block,ad151.off+6,none⟩=some (.int .u32 (rd x11_3 6))) (ds:=[]) (bb 24 0) (by kernel_rfl) rfl rfl ⟨hx168_0,hx169_0,hx170_0,hx171_0,hx172_0⟩ (fun hHeld=>?_);refine with_tabW aircheckref02_block.tab22 aircheckref02_block.bits22 (fun HT_ HW_=>?_);generalize w68.drew=w69 at HO_5 HO_10 HO_11 HB hx168_0 hx169_0 hx170_0 hx171_0 hx172_0 hHeld ⊢;refine run_ [.p 0,.p 1,.p 2,.p 3,.p 4,.p 5,.p 7,.p 8,.p 10,.p 11,.p 13,.p 15,.p 16,.p 17,.p 19,.p 20,.t 6,.t 9,.t 12,.p 14,.t 18,.t 21] ?_
                      repeat (first |(refine pk_ (v:=?_) (a':=?_) rfl rfl HT_ (by kernel_rfl) (fun _ _ _ h=>h) (by rfl) ?_ ?_ ?_;rotate_left;(intro w';go_simp;with_reducible rfl);rotate_left;(simp only[Act.put,z1,z2,z3,i64_w,i32_w];rfl)) |(refine tk_ (v:=?_) (a':=?_) rfl rfl HT_ HW_ (by kernel_rfl) (fun _ _ _ h=>h) (by rfl) hHeld ?_ ?_ ?_;rotate_left;(rintro w' ⟨s0,s1,s2,s3,s4⟩;go_simp;with_reducible rfl);rotate_left;(simp only[Act.put,z1,z2,z3,i64_w,i32_w];rfl)) |fail)
                      refine ran_ (m':=4194303) rfl ?_;refine one_ (i:=22) (N:=some 220) (bb 24 8388607) rfl rfl (one_of HT_.out (by kernel_rfl)) (by decide) (fun K hK=>?_);refine Kd.R_lit_step (Kd.int .u32) _ 117 ?hg (N:=220) ?hd (xs:=([((((((((((rd x11_3 7)+(Go.bits .xor .u32 (Go.bits .xor .u32 t154 t155) t156))%4294967296)+(Go.bits .xor .u32 (Go.bits .and .u32 (rd x11_3 4) (rd x11_3 5)) (Go.bits .and .u32 (Go.bits .xor .u32 4294967295 (rd x11_3 4)) (rd x11_3 6))))%4294967296)+(rd t145 x12_3))%4294967296)+(rd x5_2 x12_3))%4294967296)+(((Go.bits .xor .u32 (Go.bits .xor .u32 t161 t162) t163)+(Go.bits .xor .u32 (Go.bits .xor .u32 (Go.bits .and .u32 (rd x11_3 0) (rd x11_3 1)) (Go.bits .and .u32 (rd x11_3 0) (rd x11_3 2))) (Go.bits .and .u32 (rd x11_3 1) (rd x11_3 2))))%4294967296))%4294967296,rd x11_3 0,rd x11_3 1,rd x11_3 2,((rd x11_3 3)+(((((((((rd x11_3 7)+(Go.bits .xor .u32 (Go.bits .xor .u32 t154 t155) t156))%4294967296)+(Go.bits .xor .u32 (Go.bits .and .u32 (rd x11_3 4) (rd x11_3 5)) (Go.bits .and .u32 (Go.bits .xor .u32 4294967295 (rd x11_3 4)) (rd x11_3 6))))%4294967296)+(rd t145 x12_3))%4294967296)+(rd x5_2 x12_3))%4294967296))%4294967296,rd x11_3 4,rd x11_3 5,rd x11_3 6]:List Int)) (inner:=[.int .u32 (((((((((((rd x11_3 7)+(Go.bits .xor .u32 (Go.bits .xor .u32 t154 t155) t156))%4294967296)+(Go.bits .xor .u32 (Go.bits .and .u32 (rd x11_3 4) (rd x11_3 5)) (Go.bits .and .u32 (Go.bits .xor .u32 4294967295 (rd x11_3 4)) (rd x11_3 6))))%4294967296)+(rd t145 x12_3))%4294967296)+(rd x5_2 x12_3))%4294967296)+(((Go.bits .xor .u32 (Go.bits .xor .u32 t161 t162) t163)+(Go.bits .xor .u32 (Go.bits .xor .u32 (Go.bits .and .u32 (rd x11_3 0) (rd x11_3 1)) (Go.bits .and .u32 (rd x11_3 0) (rd x11_3 2))) (Go.bits .and .u32 (rd x11_3 1) (rd x11_3 2))))%4294967296))%4294967296),.int .u32 (rd x11_3 0),.int .u32 (rd x11_3 1),.int .u32 (rd x11_3 2),.int .u32 (((rd x11_3 3)+(((((((((rd x11_3 7)+(Go.bits .xor .u32 (Go.bits .xor .u32 t154 t155) t156))%4294967296)+(Go.bits .xor .u32 (Go.bits .and .u32 (rd x11_3 4) (rd x11_3 5)) (Go.bits .and .u32 (Go.bits .xor .u32 4294967295 (rd x11_3 4)) (rd x11_3 6))))%4294967296)+(rd t145 x12_3))%4294967296)+(rd x5_2 x12_3))%4294967296))%4294967296),.int .u32 (rd x11_3 4),.int .u32 (rd x11_3 5),.int .u32 (rd x11_3 6)]) (ok:=fun _=>True) (okp:=fun _=>True) ?hr ?hp (fun _ hk=>hk) trivial (Below.refl _ _) (Nat.le_refl _) (by simp) ?_;(case hd=>rfl);(case hg=>rfl);(case hr=>first |(go_simp;done) |(go_simp;simp only[show ∀x_:Int,IntKind.u32.wrap x_=x_%4294967296 from fun _=>rfl];simp;done) |(go_simp;rfl));(case hp=>exact (Reps.one (show Kd.M (Kd.int .u32) _ _ _ (((((((((((rd x11_3 7)+(Go.bits .xor .u32 (Go.bits .xor .u32 t154 t155) t156))%4294967296)+(Go.bits .xor .u32 (Go.bits .and .u32 (rd x11_3 4) (rd x11_3 5)) (Go.bits .and .u32 (Go.bits .xor .u32 4294967295 (rd x11_3 4)) (rd x11_3 6))))%4294967296)+(rd t145 x12_3))%4294967296)+(rd x5_2 x12_3))%4294967296)+(((Go.bits .xor .u32 (Go.bits .xor .u32 t161 t162) t163)+(Go.bits .xor .u32 (Go.bits .xor .u32 (Go.bits .and .u32 (rd x11_3 0) (rd x11_3 1)) (Go.bits .and .u32 (rd x11_3 0) (rd x11_3 2))) (Go.bits .and .u32 (rd x11_3 1) (rd x11_3 2))))%4294967296))%4294967296) [.int .u32 (((((((((((rd x11_3 7)+(Go.bits .xor .u32 (Go.bits .xor .u32 t154 t155) t156))%4294967296)+(Go.bits .xor .u32 (Go.bits .and .u32 (rd x11_3 4) (rd x11_3 5)) (Go.bits .and .u32 (Go.bits .xor .u32 4294967295 (rd x11_3 4)) (rd x11_3 6))))%4294967296)+(rd t145 x12_3))%4294967296)+(rd x5_2 x12_3))%4294967296)+(((Go.bits .xor .u32 (Go.bits .xor .u32 t161 t162) t163)+(Go.bits .xor .u32 (Go.bits .xor .u32 (Go.bits .and .u32 (rd x11_3 0) (rd x11_3 1)) (Go.bits .and .u32 (rd x11_3 0) (rd x11_3 2))) (Go.bits .and .u32 (rd x11_3 1) (rd x11_3 2))))%4294967296))%4294967296)] from rfl) (Reps.one (show Kd.M (Kd.int .u32) _ _ _ (rd x11_3 0) [.int .u32 (rd x11_3 0)] from rfl) (Reps.one (show Kd.M (Kd.int .u32) _ _ _ (rd x11_3 1) [.int .u32 (rd x11_3 1)] from rfl) (Reps.one (show Kd.M (Kd.int .u32) _ _ _ (rd x11_3 2) [.int .u32 (rd x11_3 2)] from rfl) (Reps.one (show Kd.M (Kd.int .u32) _ _ _ (((rd x11_3 3)+(((((((((rd x11_3 7)+(Go.bits .xor .u32 (Go.bits .xor .u32 t154 t155) t156))%4294967296)+(Go.bits .xor .u32 (Go.bits .and .u32 (rd x11_3 4) (rd x11_3 5)) (Go.bits .and .u32 (Go.bits .xor .u32 4294967295 (rd x11_3 4)) (rd x11_3 6))))%4294967296)+(rd t145 x12_3))%4294967296)+(rd x5_2 x12_3))%4294967296))%4294967296) [.int .u32 (((rd x11_3 3)+(((((((((rd x11_3 7)+(Go.bits .xor .u32 (Go.bits .xor .u32 t154 t155) t156))%4294967296)+(Go.bits .xor .u32 (Go.bits .and .u32 (rd x11_3 4) (rd x11_3 5)) (Go.bits .and .u32 (Go.bits .xor .u32 4294967295 (rd x11_3 4)) (rd x11_3 6))))%4294967296)+(rd t145 x12_3))%4294967296)+(rd x5_2 x12_3))%4294967296))%4294967296)] from rfl) (Reps.one (show Kd.M (Kd.int .u32) _ _ _ (rd x11_3 4) [.int .u32 (rd x11_3 4)] from rfl) (Reps.one (show Kd.M (Kd.int .u32) _ _ _ (rd x11_3 5) [.int .u32 (rd x11_3 5)] from rfl) (Reps.one (show Kd.M (Kd.int .u32) _ _ _ (rd x11_3 6) [.int .u32 (rd x11_3 6)] from rfl) (Reps.none _ _))))))))))
                      intro v174 w70 ho71 hb hg_ hnew_;have HS0_:=(hb.cell (World.block_lt_of_cell? _ _ (hHeld.1))).trans (hHeld.1);have HS1_:=(hb.cell (World.block_lt_of_cell? _ _ (hHeld.2.1))).trans (hHeld.2.1);have HS2_:=(hb.cell (World.block_lt_of_cell? _ _ (hHeld.2.2.1))).trans (hHeld.2.2.1);have HS3_:=(hb.cell (World.block_lt_of_cell? _ _ (hHeld.2.2.2.1))).trans (hHeld.2.2.2.1);have HS4_:=(hb.cell (World.block_lt_of_cell? _ _ (hHeld.2.2.2.2))).trans (hHeld.2.2.2.2);clear hg_ hnew_
                      (first |rw[<-Ny173.out] at ho71 |(simp only[Int.reduceToNat] at ho71;rw[<-Ny173.out] at ho71))
                      have n0_:=Aside0.mk (Kd.R_elder' (by (with_reducible repeat (first |apply Kd.R_alloc |apply Kd.R_drewN |apply Kd.R_drew));exact HO_5.out) (Kd.R_base ho71) hb);have n1_:=Aside0.mk (Kd.R_elder' (by (with_reducible repeat (first |apply Kd.R_alloc |apply Kd.R_drewN |apply Kd.R_drew));exact HO_10.out) (Kd.R_base ho71) hb);have n2_:=Aside0.mk (Kd.R_elder' (by (with_reducible repeat (first |apply Kd.R_alloc |apply Kd.R_drewN |apply Kd.R_drew));exact HO_11.out) (Kd.R_base ho71) hb);have n3_:=Aside0.mk (Kd.R_lower (Kd.R_new' (Kd.R_new' (Kd.R_new' ho71 (Kd.R_lt (by (with_reducible repeat (first |apply Kd.R_alloc |apply Kd.R_drewN |apply Kd.R_drew));exact HO_5.out))) (Kd.R_lt (by (with_reducible repeat (first |apply Kd.R_alloc |apply Kd.R_drewN |apply Kd.R_drew));exact HO_10.out))) (Kd.R_lt (by (with_reducible repeat (first |apply Kd.R_alloc |apply Kd.R_drewN |apply Kd.R_drew));exact HO_11.out))) (below_size (by repeat (first |(with_reducible first |exact HB.out |apply below_alloc |apply pw_below_drewN |apply below_drew1) |exact HB.out))));have n4_:=Aside0.mk (below_step (by repeat (first |(with_reducible first |exact HB.out |apply below_alloc |apply pw_below_drewN |apply below_drew1) |exact HB.out)) hb);clear HO_5;clear HO_10;clear HO_11;clear HB;have HO_5:=n0_;have HO_10:=n1_;have HO_11:=n2_;have HO175:=n3_;have HB:=n4_;clear n0_ n1_ n2_ n3_ n4_;clear hb ho71;refine hK.out _ _ ⟨HS0_,HS1_,HS2_,HS3_,HS4_⟩ (fun hHeld=>?_);clear hK K;refine norm_ (a':=?_) ?_ ?_
                      rotate_left
                      ·show Act.put _ (some 220) _=_
                       simp only[Act.put,z1,z2,z3,i64_w,i32_w];rfl
                      refine pj_ (v:=?_) (a':=?_) 23 (some 11) (bb 24 16777215) rfl rfl HT_ (by kernel_rfl) (fun _ _ _ h=>h) (by rfl) ?_ ?_ ?_
                      rotate_left;(intro w';go_simp;with_reducible rfl);rotate_left;(simp only[Act.put,z1,z2,z3,i64_w,i32_w];rfl)
                      refine done_ (done_of HT_.out (by kernel_rfl)) ?_
                      try go_wp2
                      go_roundg k3
                      case measure=>have:=HK1.out;have:=HK2.out;have:=HK3.out;omega
                      case rel=>exact⟨(y173),(wrap64 (x12_3+1)),(by first |rfl |(simp;done) |(simp[*];done)),H',⟨by have:=HK1.out;have:=HK2.out;have:=HK3.out;omega⟩,⟨by (with_reducible repeat (first |apply Kd.R_alloc |apply Kd.R_drewN |apply Kd.R_drew));exact Kd.R_mono HO_5.out (fun _ hk=>by first |exact⟨hk.1.1,hk.2⟩ |exact⟨hk.2,hk.1⟩ |exact hk |exact⟨hk.1.2,hk.2⟩ |exact⟨hk.2,hk.1.1⟩ |exact⟨hk.2,hk.1.2⟩ |exact⟨hk.1.1,hk.1.2⟩ |exact⟨hk.1.2,hk.1.1⟩)⟩,⟨by (with_reducible repeat (first |apply Kd.R_alloc |apply Kd.R_drewN |apply Kd.R_drew));exact Kd.R_mono HO_10.out (fun _ hk=>by first |exact⟨hk.1.1,hk.2⟩ |exact⟨hk.2,hk.1⟩ |exact hk |exact⟨hk.1.2,hk.2⟩ |exact⟨hk.2,hk.1.1⟩ |exact⟨hk.2,hk.1.2⟩ |exact⟨hk.1.1,hk.1.2⟩ |exact⟨hk.1.2,hk.1.1⟩)⟩,⟨by (with_reducible repeat (first |apply Kd.R_alloc |apply Kd.R_drewN |apply Kd.R_drew));exact Kd.R_mono HO175.out (fun _ hk=>by first |exact⟨hk.1.1.2,hk.1.2⟩ |exact⟨hk.2,hk.1⟩ |exact hk |exact⟨hk.1.1,hk.2⟩ |exact⟨hk.1.2,hk.2⟩ |exact⟨hk.2,hk.1.1⟩ |exact⟨hk.2,hk.1.2⟩ |exact⟨hk.1.1,hk.1.2⟩ |exact⟨hk.1.2,hk.1.1⟩)⟩,⟨by repeat (first |(with_reducible first |exact HB.out |apply below_alloc |apply pw_below_drewN |apply below_drew1) |exact HB.out)⟩⟩
                     ·rw[if_neg c63] at H;exact absurd H (by simp)
                    ·rw[if_neg c62] at H;exact absurd H (by simp)
                   ·rw[if_neg c61] at H;exact absurd H (by simp)
                  ·rw[if_neg c57] at H;exact absurd H (by simp)
                 ·rw[if_neg c56] at H;exact absurd H (by simp)
                ·rw[if_neg c55] at H;exact absurd H (by simp)
               ·rw[if_neg c54] at H;exact absurd H (by simp)
              ·rw[if_neg c53] at H;exact absurd H (by simp)
             ·rw[if_neg c49] at H;exact absurd H (by simp)
            ·rw[if_neg c48] at H;exact absurd H (by simp)
           ·rw[if_neg c47] at H;exact absurd H (by simp)
          ·rw[if_neg c46] at H;have c46b0:decide (x12_3<64)=false:=decide_eq_false c46;clear c46;have H':=Aside0.mk H;clear H
           go_wp2
           go_loopg [17,18] k3 (fun kq v17 v18 w'=>∃(x17_4:List Int) (x18_4:Int),v18=.int .i64 x18_4∧Aside0 (aircheckref02_block.l3 kq l0 x11_3 x17_4 x18_4=some r)∧Aside0 (kq<=k3)∧Aside0 (Kd.R (Kd.int .u32) 117 w' w.heap.size (fun k_=>some k_≠(v17:Value).ownBlock) u11 x11_3)∧Aside0 (Kd.R (Kd.int .u32) 117 w' w.heap.size (fun k_=>some k_≠(u11:Value).ownBlock) v17 x17_4)∧Aside0 (Below w.heap.size w w'))
           case atStart=>exact⟨(([]:List Int)),(0),(by first |rfl |(simp;done) |(simp[*];done)),H',⟨Nat.le_refl _⟩,⟨by (with_reducible repeat (first |apply Kd.R_alloc |apply Kd.R_drewN |apply Kd.R_drew));exact Kd.R_mono HO_11.out (fun _ hk=>(by simp[Value.ownBlock]))⟩,⟨by first |exact Kd.R_nil _ _ _ _ _ |exact Kd.N_nil _ _ _ _ _ |exact Kd.V_nil _ _ _ _ _ |exact Kd.Q_nil _ _ _ _ _ |exact Kd.S_nil _ _ _ _ _⟩,⟨by repeat (first |(with_reducible first |exact HB.out |apply below_alloc |apply pw_below_drewN |apply below_drew1) |exact HB.out)⟩⟩
           case round=>
            clear H'
            try clear p1
            try clear q1
            try clear hx1
            try clear qi1
            try clear p2
            try clear c4
            try clear c5
            try clear c6
            try clear p6
            try clear c9
            try clear p16
            try clear q16
            try clear hx16
            try clear qi16
            try clear p17
            try clear q17
            try clear hx17
            try clear qi17
            try clear c46
            try clear c46b0
            try clear c47
            try clear c48
            try clear c49
            try clear c53
            try clear c54
            try clear c55
            try clear c56
            try clear c57
            try clear c61
            try clear c62
            try clear c63
            try clear p64
            try clear hx164_0
            try clear hx165_0
            try clear hx166_0
            try clear hx167_0
            try clear hx168_0
            try clear hx169_0
            try clear hx170_0
            try clear hx171_0
            try clear hx172_0
            try clear p164
            try clear p165
            try clear p166
            try clear p167
            try clear p168
            try clear p169
            try clear p170
            try clear p171
            try clear p172
            try clear q164
            try clear q165
            try clear q166
            try clear q167
            try clear q168
            try clear q169
            try clear q170
            try clear q171
            try clear q172
            obtain⟨x17_4,x18_4,rfl,HA,HK4,HO_11,HO_17,HB⟩:=hrel
            cases gk with
            |zero=>exact absurd HA.out (by simp[aircheckref02_block.l3])
            |succ k4=>
             have H:=HA.out;clear HA;simp only[aircheckref02_block.l3] at H
             by_cases c72:x18_4<8
             ·rw[if_pos c72] at H;have c72b0:decide (x18_4<8)=true:=decide_eq_true c72;clear c72
              by_cases c73:0<=x18_4
              ·rw[if_pos c73] at H;have c73b0:decide (0<=x18_4)=true:=decide_eq_true c73;clear c73
               by_cases c74:x18_4<(l0.length:Int)
               ·rw[if_pos c74] at H;have c74b0:decide (x18_4<(l0.length:Int))=true:=decide_eq_true c74;clear c74
                by_cases c75:x18_4<(x11_3.length:Int)
                ·rw[if_pos c75] at H;have c75b0:decide (x18_4<(x11_3.length:Int))=true:=decide_eq_true c75;clear c75
                 by_cases c76:x17_4.length<35184372088832
                 ·rw[if_pos c76] at H;have LMc76:=Aside0.mk c76;clear c76;obtain⟨y178,hy178⟩:∃y_:List Int,y_=(x17_4++[((rd l0 x18_4)+(rd x11_3 x18_4))%4294967296]):=⟨_,rfl⟩
                  replace H:(aircheckref02_block.l3 k4 l0 x11_3 y178 (wrap64 (x18_4+1)))=some r:=by first |(rw[hy178];with_reducible exact H) |(have H2_:=(Option.bind_some _ _).symm.trans H;rw[hy178];with_reducible exact H2_) |(have H2_:=(Option.bind_some _ _).symm.trans H;with_reducible exact H2_) |with_reducible exact H |(rw[hy178];exact H) |exact H
                  have Ny178:=Aside0.mk hy178;clear hy178;have H':=Aside0.mk H;clear H
                  try go_wp2
                  have n0_:=Aside0.mk (Kd.R_drew HO_11.out);have n1_:=Aside0.mk (Kd.R_drew HO_17.out);have n2_:=Aside0.mk (below_drew1 HB.out);clear HO_11;clear HO_17;clear HB;have HO_11:=n0_;have HO_17:=n1_;have HB:=n2_;clear n0_ n1_ n2_;have p176:0<=(x18_4:Int):=of_decide_eq_true (by first |(with_reducible assumption) |assumption);have q176:x18_4<(l0.length:Int):=of_decide_eq_true (by first |(with_reducible assumption) |assumption);obtain⟨ad176,e176,hx176_0⟩:=Kd.at_int HR0.out x18_4 p176 q176;have hw176_0:=hx176_0
                  cases e176
                  replace hx176_0:=(HB.out.cell (World.block_lt_of_cell? w _ hx176_0)).trans hx176_0;replace p176:=eq_true p176;replace q176:=eq_true q176;obtain⟨Ao78,co78,eo78⟩:=Kd.R_slice HO_11.out
                  (first |subst eo78 |(injection eo78 with f1_ f2_ f3_;have f4_:=f1_.symm;have f5_:=f3_.symm;clear f1_ f2_ f3_;subst f4_;subst f5_))
                  have p177:0<=(x18_4:Int):=of_decide_eq_true (by first |(with_reducible assumption) |assumption);have q177:x18_4<(x11_3.length:Int):=of_decide_eq_true (by first |(with_reducible assumption) |assumption);obtain⟨ad177,e177,hx177_0⟩:=Kd.at_int (Kd.R_reads' HO_11.out).2.2 x18_4 p177 q177
                  cases e177
                  replace p177:=eq_true p177;replace q177:=eq_true q177;refine start_ (n:=13) (S:=fun w'=>w'.cell? (ad176.add (x18_4).toNat)=some (.int .u32 (rd l0 x18_4))∧w'.cell? (ad177.add (x18_4).toNat)=some (.int .u32 (rd x11_3 x18_4))) (ds:=[10,11]) (bb 13 0) (by kernel_rfl) rfl rfl ⟨((HB.out.cell (World.block_lt_of_cell? w _ hw176_0)).trans hw176_0),hx177_0⟩ (fun hHeld=>?_);refine with_tabW aircheckref02_block.tab27 aircheckref02_block.bits27 (fun HT_ HW_=>?_);generalize wr.drew=w77 at HO_11 HO_17 HB hx176_0 hx177_0 hHeld ⊢;refine run_ [.p 0,.p 1,.p 2,.p 3,.p 5,.p 6,.p 7,.t 4,.t 8,.p 9] ?_
                  repeat (first |(refine pk_ (v:=?_) (a':=?_) rfl rfl HT_ (by kernel_rfl) (fun _ _ _ h=>h) (by rfl) ?_ ?_ ?_;rotate_left;(intro w';go_simp;with_reducible rfl);rotate_left;(simp only[Act.put,z1,z2,z3,i64_w,i32_w];rfl)) |(refine tk_ (v:=?_) (a':=?_) rfl rfl HT_ HW_ (by kernel_rfl) (fun _ _ _ h=>h) (by rfl) hHeld ?_ ?_ ?_;rotate_left;(rintro w' ⟨s0,s1⟩;go_simp;with_reducible rfl);rotate_left;(simp only[Act.put,z1,z2,z3,i64_w,i32_w];rfl)) |fail)
                  refine ran_ (m':=1023) rfl ?_;refine last_ (i:=10) (N:=some 235) (bb 13 2047) rfl rfl (one_of HT_.out (by kernel_rfl)) (by decide) (fun K hK=>?_);refine value_ (w1:=?_) (v:=?_) (by rfl) rfl ?_ ?_
                  rotate_left 2
                  ·go_simp
                   constructor
                   ·rfl
                   ·rfl
                  refine hK.out _ _ ?_;clear hK K;refine norm_ (a':=?_) ?_ ?_
                  rotate_left
                  ·show Act.put _ (some 235) _=_
                   simp only[Act.put,z1,z2,z3,i64_w,i32_w];rfl
                  refine last_ (i:=11) (N:=some 236) (bb 13 4095) rfl rfl (one_of HT_.out (by kernel_rfl)) (by decide) (fun K hK=>?_);refine Kd.R_append_step (Kd.int .u32) (w0:=w) w.heap.size (by rfl) (.tmp 225) (.tmp 235) 118 117 (.int .u32 0) 4 rfl Tryd.underlying118 info117 rfl (by decide) (by omega) u17 x17_4 (((rd l0 x18_4)+(rd x11_3 x18_4))%4294967296) [.int .u32 (((rd l0 x18_4)+(rd x11_3 x18_4))%4294967296)] (fun k_=>some k_≠(.slice (some ad177) x11_3.length co78:Value).ownBlock) (fun _=>False) rfl rfl ?aP (fun _ hk=>hk.elim) ?aF ?aO ?aB ?aS ?aL ?_
                  (case aP=>exact rfl)
                  (case aB=>exact (by repeat (first |(with_reducible first |exact HB.out |apply below_alloc |apply pw_below_drewN |apply below_drew1) |exact HB.out)))
                  (case aF=>exact (fun k_ hk=>Kd.fresh' (Kd.R_lt (by (with_reducible repeat (first |apply Kd.R_alloc |apply Kd.R_drewN |apply Kd.R_drew));exact HO_11.out)) k_ hk))
                  (case aO=>exact (by (with_reducible repeat (first |apply Kd.R_alloc |apply Kd.R_drewN |apply Kd.R_drew));exact HO_17.out))
                  (case aS=>exact (below_size (by repeat (first |(with_reducible first |exact HB.out |apply below_alloc |apply pw_below_drewN |apply below_drew1) |exact HB.out))))
                  (case aL=>have:=LMc76.out;omega)
                  intro v179 w79 ho hb hg hat;rw[<-Ny178.out] at ho;have n0_:=Aside0.mk (Kd.R_after (ok:=(fun _=>True)) (by (with_reducible repeat (first |apply Kd.R_alloc |apply Kd.R_drewN |apply Kd.R_drew));exact Kd.R_mono HO_11.out (fun _ hk=>⟨trivial,hk⟩)) hg hat);have n1_:=Aside0.mk (hb);have n2_:=Aside0.mk (ho);clear HO_11;clear HB;clear HO_17;have HO_11:=n0_;have HB:=n1_;have HO180:=n2_;clear n0_ n1_ n2_;clear ho hb hg hat;refine hK.out _ _ ?_;clear hK K;refine norm_ (a':=?_) ?_ ?_
                  rotate_left
                  ·show Act.put _ (some 236) _=_
                   simp only[Act.put,z1,z2,z3,i64_w,i32_w];rfl
                  refine pj_ (v:=?_) (a':=?_) 12 (some 17) (bb 13 8191) rfl rfl HT_ (by kernel_rfl) (fun _ _ _ h=>h) (by rfl) ?_ ?_ ?_
                  rotate_left;(intro w';go_simp;with_reducible rfl);rotate_left;(simp only[Act.put,z1,z2,z3,i64_w,i32_w];rfl)
                  refine done_ (done_of HT_.out (by kernel_rfl)) ?_
                  try go_wp2
                  go_roundg k4
                  case measure=>have:=HK1.out;have:=HK2.out;have:=HK3.out;have:=HK4.out;omega
                  case rel=>exact⟨(y178),(wrap64 (x18_4+1)),(by first |rfl |(simp;done) |(simp[*];done)),H',⟨by have:=HK1.out;have:=HK2.out;have:=HK3.out;have:=HK4.out;omega⟩,⟨by (with_reducible repeat (first |apply Kd.R_alloc |apply Kd.R_drewN |apply Kd.R_drew));exact Kd.R_mono HO_11.out (fun _ hk=>hk.2)⟩,⟨by (with_reducible repeat (first |apply Kd.R_alloc |apply Kd.R_drewN |apply Kd.R_drew));exact HO180.out⟩,⟨by repeat (first |(with_reducible first |exact HB.out |apply below_alloc |apply pw_below_drewN |apply below_drew1) |exact HB.out)⟩⟩
                 ·rw[if_neg c76] at H;exact absurd H (by simp)
                ·rw[if_neg c75] at H;exact absurd H (by simp)
               ·rw[if_neg c74] at H;exact absurd H (by simp)
              ·rw[if_neg c73] at H;exact absurd H (by simp)
             ·rw[if_neg c72] at H;have c72b0:decide (x18_4<8)=false:=decide_eq_false c72;clear c72;obtain rfl:=Option.some.inj H
              go_wp2
              go_ret
              exact⟨_,by first |rfl |(simp[errW_none,errW_some]<;>rfl) |(simp[*,errW_none,errW_some]<;>rfl),by (with_reducible repeat (first |apply Kd.R_alloc |apply Kd.R_drewN |apply Kd.R_drew));exact Kd.R_mono HO_17.out (fun _ hk=>trivial),by repeat (first |(with_reducible first |exact HB.out |apply below_alloc |apply pw_below_drewN |apply below_drew1) |exact HB.out)⟩
       ·rw[if_neg c43] at H;exact absurd H (by simp)
end Go.Proofs.YtfdlmpicmkpabaaDoor.PB
end
