import Derived.Test.YtfdlmpicmkpabaaDoorMLogbookDecodesac
import Derived.Test.YtfdlmpicmkpabaaDoorMLogbookDecodesae
import Derived.Test.YtfdlmpicmkpabaaDoorMLogbookDecodesaq
import Derived.CallsIn
import Derived.Test.YtfdlmpicmkpabaaDoorProg
import Derived.Below
import Derived.Deep.Draws
import Derived.Deep.AppendLies
import Derived.Maps.AppendAt
import Derived.OwnWalk
import Derived.Laws.BytesArg
import Derived.Laws.MakeOwn
import Derived.Laws.OwnMore
import Derived.Deep.OwnRows
import Derived.Tactics
import Derived.Lib.ConvBytes
import Derived.Laws.Slices
import Derived.WalkKit
import Derived.KernelRfl
import Derived.RowKit3
import Derived.Deep.LoopGhost
import Derived.Deep.QuietTactic
import Derived.BigQuiet
import Derived.WideLaws
import Derived.Deep.DeepCutAuto
import Derived.Deep.CutBlock
import Derived.Deep.RegionHeld3
import Derived.Laws.Rows
import Derived.Lib.AppendStr
import Derived.ArgAppend
import Derived.Laws.IdiomCopy
import Derived.OrdersHeld
import Derived.Laws.BitsLemmas
import Derived.RowKit
import Derived.Test.YtfdlmpicmkpabaaDoorMLogbookDecodesaa
import Derived.Test.YtfdlmpicmkpabaaDoorMLogbookDecodesab
import Derived.Test.YtfdlmpicmkpabaaDoorMLogbookDecodesag
import Derived.Test.YtfdlmpicmkpabaaDoorMLogbookDecodesap
import Derived.Laws.BitsAllLaws
import Derived.Laws.DeepNot64
import Derived.Lib.Strings
import Derived.Test.YtfdlmpicmkpabaaDoorMLogbookDecodesad
import Derived.Lib.Hide
/-
  Texts of this claim, one behind the other: what they prove stands above each.
-/
set_option linter.unusedVariables false
set_option linter.unusedSimpArgs false
section
namespace Go.Proofs.YtfdlmpicmkpabaaDoor.Ext
set_option maxRecDepth 100000
open Go.RowKit
def wire_PutInt.f(a0:Int):Option (ByteArray × Int):=if a0< -4611686018427387903 then some (⟨#[]⟩,10) else if a0>4611686018427387903 then some (⟨#[]⟩,10) else some (str (Leb.enc a0),0)
set_option maxHeartbeats 1000000 in
theorem PutInt_low(a:Int)(h:a< -4611686018427387903)(w:World):Calls Tryd.prog 81 #[.int .i64 a] w fun e w'=>e=.returned (.tuple #[.string ⟨#[]⟩,.int .i64 10])∧w'=w:=by
 have d1:decide (a< -4611686018427387903)=true:=decide_eq_true h
 go_enter Tryd.func81,Tryd.ntmps81
 go_wp2
 go_ret2
 exact⟨rfl,rfl⟩
set_option maxHeartbeats 1000000 in
theorem PutInt_high(a:Int)(h:4611686018427387903<a)(w:World):Calls Tryd.prog 81 #[.int .i64 a] w fun e w'=>e=.returned (.tuple #[.string ⟨#[]⟩,.int .i64 10])∧w'=w:=by
 have d1:decide (a< -4611686018427387903)=false:=decide_eq_false (by omega);have d2:decide (4611686018427387903<a)=true:=decide_eq_true h
 go_enter Tryd.func81,Tryd.ntmps81
 go_wp2
 go_ret2
 exact⟨rfl,rfl⟩
theorem wire_PutInt.calls(a0:Int)(r1:ByteArray)(r2:Int)(w:World)(h:wire_PutInt.f a0=some (r1,r2)):
  Calls Tryd.prog 81 #[.int .i64 a0] w fun e w'=>e=.returned (.tuple #[.string r1,.int .i64 r2])∧Below w.heap.size w w':=by
 unfold wire_PutInt.f at h
 by_cases h1:a0< -4611686018427387903
 ·rw[if_pos h1] at h;obtain⟨rfl,rfl⟩:=Prod.mk.inj (Option.some.inj h);exact (PutInt_low a0 h1 w).mono fun e w' ⟨he,hw⟩=>⟨he,hw ▸ Below.refl _ _⟩
 ·rw[if_neg h1] at h
  by_cases h2:a0>4611686018427387903
  ·rw[if_pos h2] at h;obtain⟨rfl,rfl⟩:=Prod.mk.inj (Option.some.inj h);exact (PutInt_high a0 h2 w).mono fun e w' ⟨he,hw⟩=>⟨he,hw ▸ Below.refl _ _⟩
  ·rw[if_neg h2] at h;obtain⟨rfl,rfl⟩:=Prod.mk.inj (Option.some.inj h);exact (callsIn_wide (n:=3)).1 (PutInt_in Fence.wide 3 trivial trivial trivial rfl (by omega) a0 (by omega) (by omega) w)
end Go.Proofs.YtfdlmpicmkpabaaDoor.Ext
end
section
namespace Go.Proofs.YtfdlmpicmkpabaaDoor.PC
open Go.Proofs.YtfdlmpicmkpabaaDoor.Ext
attribute [local go_sem] u32_signed u32_max
open Go.RowKit Go.Proofs.YtfdlmpicmkpabaaDoorW.PrintWords Go.Proofs.YtfdlmpicmkpabaaDoorW.PrintLast Go.Proofs.YtfdlmpicmkpabaaDoorW.PrintMore
attribute [local go_sem] max2_int min2_int max_two min_two max_three min_three max_four min_four -- for this text's walks alone
def errW:Option Int->Value
 |none=>.nilIface
 |some c=>.iface 0 (.int .i64 c)
theorem errW_none:errW none=.nilIface:=rfl
theorem errW_some(c:Int):errW (some c)=.iface 0 (.int .i64 c):=rfl
end Go.Proofs.YtfdlmpicmkpabaaDoor.PC
end
section
namespace Go.Proofs.YtfdlmpicmkpabaaDoor.PC
open Go.Proofs.YtfdlmpicmkpabaaDoor.Ext
attribute [local go_sem] u32_signed u32_max
open Go.RowKit Go.Proofs.YtfdlmpicmkpabaaDoorW.PrintWords Go.Proofs.YtfdlmpicmkpabaaDoorW.PrintLast Go.Proofs.YtfdlmpicmkpabaaDoorW.PrintMore
attribute [local go_sem] max2_int min2_int max_two min_two max_three min_three max_four min_four -- for this text's walks alone
def wire_PutString.f(a0:ByteArray):Option (ByteArray × Int):=if (a0.size:Int)>65536 then (some ((⟨#[]⟩:ByteArray),10)) else ((wire_PutInt.f (a0.size:Int)).bind fun bt101=>(if bt101.1.size+a0.size<=9223372036854775807 then (some (bt101.1++a0,0)) else (none)))
set_option maxHeartbeats 8000000 in
set_option maxRecDepth 100000 in
theorem wire_PutString.calls(a0:ByteArray)(r1:ByteArray)(r2:Int)(w:World)(h:wire_PutString.f a0=some (r1,r2)):
  Calls Tryd.prog 53 #[.string a0] w fun e w'=>e=.returned (.tuple #[.string r1,.int .i64 r2])∧Below w.heap.size w w':=by
 have HB:=Aside0.mk (Below.refl w.heap.size w);have H:(if (a0.size:Int)>65536 then (some ((⟨#[]⟩:ByteArray),10)) else ((wire_PutInt.f (a0.size:Int)).bind fun bt101=>(if bt101.1.size+a0.size<=9223372036854775807 then (some (bt101.1++a0,0)) else (none))))=some (r1,r2):=h;clear h
 by_cases c2:(a0.size:Int)>65536
 ·rw[if_pos c2] at H;have c2b0:decide (65536<(a0.size:Int))=true:=decide_eq_true c2;have c2b1:decide (65536<a0.size)=true:=decide_eq_true (by omega);clear c2;simp only[Option.some.injEq,Prod.mk.injEq] at H;obtain⟨rfl,rfl⟩:=H
  go_enter Tryd.func53,Tryd.ntmps53
  go_wp2
  go_ret2
  exact⟨by first |rfl |(simp[errW_none,errW_some]<;>rfl) |(simp[*,errW_none,errW_some]<;>rfl),by repeat (first |(with_reducible first |exact HB.out |apply below_alloc |apply pw_below_drewN |apply below_drew1) |exact HB.out)⟩
 ·rw[if_neg c2] at H;have c2b0:decide (65536<(a0.size:Int))=false:=decide_eq_false c2;have c2b1:decide (65536<a0.size)=false:=decide_eq_false (by omega);clear c2;replace H:=Option.bind_eq_some_iff.mp H;obtain⟨⟨t101,t102⟩,A30,H⟩:=H;replace H:(if t101.size+a0.size<=9223372036854775807 then (some (t101++a0,0)) else (none))=some (r1,r2):=H;have A3:=Aside0.mk A30;clear A30
  by_cases c4:t101.size+a0.size<=9223372036854775807
  ·rw[if_pos c4] at H;have c4b0:=eq_true c4;have c4b1:decide (t101.size+a0.size<=9223372036854775807)=true:=decide_eq_true c4
   try have c4b2:(9223372036854775807<t101.size+a0.size)=False:=eq_false (Nat.not_lt.2 c4)
   obtain⟨js5,hjs5⟩:∃s_:ByteArray,(t101++a0)=s_:=⟨_,rfl⟩
   replace H:(some (js5,0))=some (r1,r2):=by first |(rw[hjs5] at H;exact H) |(simp only[hjs5] at H ⊢;exact H) |exact H
   simp only[Option.some.injEq,Prod.mk.injEq] at H;obtain⟨rfl,rfl⟩:=H
   go_enter Tryd.func53,Tryd.ntmps53
   go_wp2_with (first |((with_reducible refine gate_callee (f:=81) rfl ?_);refine goesL_ (some 12) rfl rfl Tryd.func81 (by kernel_rfl) rfl #[.int .i64 (a0.size:Int)] rfl (by (try simp only[List.map_toArray,List.map_cons,List.map_nil]);first |done |rfl |(simp only[List.length_drop,List.length_take];rfl)) ?_;(with_reducible refine (wire_PutInt.calls (a0.size:Int) t101 t102 _ A3.out).mono ?_);rintro e w6 ⟨rfl,hb⟩;refine⟨_,rfl,?_⟩;have n0_:=Aside0.mk (below_step (by repeat (first |(with_reducible first |exact HB.out |apply below_alloc |apply pw_below_drewN |apply below_drew1) |exact HB.out)) hb);clear HB;have HB:=n0_;clear n0_;(try clear hb);(try clear hb2);(try clear hk);(try clear hi)))
   go_ret2
   exact⟨by first |rfl |(simp[errW_none,errW_some]<;>rfl) |(simp only[<-hjs5];first |rfl |(simp[errW_none,errW_some]<;>rfl)) |(simp[*,errW_none,errW_some]<;>rfl),by repeat (first |(with_reducible first |exact HB.out |apply below_alloc |apply pw_below_drewN |apply below_drew1) |exact HB.out)⟩
  ·rw[if_neg c4] at H;exact absurd H (by simp)
end Go.Proofs.YtfdlmpicmkpabaaDoor.PC
end
section
namespace Go.Proofs.YtfdlmpicmkpabaaDoor.PC
open Go.Proofs.YtfdlmpicmkpabaaDoor.Ext
attribute [local go_sem] u32_signed u32_max
open Go.RowKit Go.Proofs.YtfdlmpicmkpabaaDoorW.PrintWords Go.Proofs.YtfdlmpicmkpabaaDoorW.PrintLast Go.Proofs.YtfdlmpicmkpabaaDoorW.PrintMore
attribute [local go_sem] max2_int min2_int max_two min_two max_three min_three max_four min_four -- for this text's walks alone
mutual
def wire_Int.j0:Nat->ByteArray->Int->Bool->Option (Int × Int × Int)
 |0,_,_,_=>none
 |k+1,x0,x1,x18=>if x18=true then (some (0,0,2)) else (wire_Int.l0 k x0 x1 0 0)
def wire_Int.l0:Nat->ByteArray->Int->Int->Int->Option (Int × Int × Int)
 |0,_,_,_,_=>none
 |k+1,x0,x1,x7,x19=>if x19<9 then (if (wrap64 (x1+x19))>=(x0.size:Int) then (some (0,0,10)) else (if 0<=(wrap64 (x1+x19)) then (if (wrap64 (x1+x19))<(x0.size:Int) then (if 0<=(wrap64 (7*x19)) then (if (bt x0 (wrap64 (x1+x19)))>=128 then (wire_Int.l0 k x0 x1 (Go.bits .or .u64 x7 (shl .u64 (IntKind.u64.wrap (Go.bits .and .u8 (bt x0 (wrap64 (x1+x19))) 127)) (wrap64 (7*x19)))) (wrap64 (x19+1))) else (if (bt x0 (wrap64 (x1+x19)))=0 then (if x19>0 then (some (0,0,10)) else (if (Go.bits .xor .i64 (wrap64 ((Go.bits .or .u64 x7 (shl .u64 (IntKind.u64.wrap (Go.bits .and .u8 (bt x0 (wrap64 (x1+x19))) 127)) (wrap64 (7*x19)))) / 2)) (wrap64 (-(wrap64 (Go.bits .and .u64 (Go.bits .or .u64 x7 (shl .u64 (IntKind.u64.wrap (Go.bits .and .u8 (bt x0 (wrap64 (x1+x19))) 127)) (wrap64 (7*x19)))) 1)))))<(-4611686018427387903) then (some (0,0,10)) else (some (Go.bits .xor .i64 (wrap64 ((Go.bits .or .u64 x7 (shl .u64 (IntKind.u64.wrap (Go.bits .and .u8 (bt x0 (wrap64 (x1+x19))) 127)) (wrap64 (7*x19)))) / 2)) (wrap64 (-(wrap64 (Go.bits .and .u64 (Go.bits .or .u64 x7 (shl .u64 (IntKind.u64.wrap (Go.bits .and .u8 (bt x0 (wrap64 (x1+x19))) 127)) (wrap64 (7*x19)))) 1)))),wrap64 ((wrap64 (x1+x19))+1),0)))) else (if (Go.bits .xor .i64 (wrap64 ((Go.bits .or .u64 x7 (shl .u64 (IntKind.u64.wrap (Go.bits .and .u8 (bt x0 (wrap64 (x1+x19))) 127)) (wrap64 (7*x19)))) / 2)) (wrap64 (-(wrap64 (Go.bits .and .u64 (Go.bits .or .u64 x7 (shl .u64 (IntKind.u64.wrap (Go.bits .and .u8 (bt x0 (wrap64 (x1+x19))) 127)) (wrap64 (7*x19)))) 1)))))<(-4611686018427387903) then (some (0,0,10)) else (some (Go.bits .xor .i64 (wrap64 ((Go.bits .or .u64 x7 (shl .u64 (IntKind.u64.wrap (Go.bits .and .u8 (bt x0 (wrap64 (x1+x19))) 127)) (wrap64 (7*x19)))) / 2)) (wrap64 (-(wrap64 (Go.bits .and .u64 (Go.bits .or .u64 x7 (shl .u64 (IntKind.u64.wrap (Go.bits .and .u8 (bt x0 (wrap64 (x1+x19))) 127)) (wrap64 (7*x19)))) 1)))),wrap64 ((wrap64 (x1+x19))+1),0))))) else (none)) else (none)) else (none))) else (some (0,0,10))
end
def wire_Int.f(k:Nat)(a0:ByteArray)(a1:Int):Option (Int × Int × Int):=if a1<0 then (wire_Int.j0 k a0 a1 true) else (wire_Int.j0 k a0 a1 (decide (a1>(a0.size:Int))))
set_option maxHeartbeats 8000000 in
set_option maxRecDepth 100000 in
theorem wire_Int.calls(k:Nat)(a0:ByteArray)(a1:Int)(r1:Int)(r2:Int)(r3:Int)(w:World)(h:wire_Int.f k a0 a1=some (r1,r2,r3)):
  Calls Tryd.prog 58 #[.string a0,.int .i64 a1] w fun e w'=>e=.returned (.tuple #[.int .i64 r1,.int .i64 r2,.int .i64 r3])∧Drawn0 w w':=by
 have H:(if a1<0 then (wire_Int.j0 k a0 a1 true) else (wire_Int.j0 k a0 a1 (decide (a1>(a0.size:Int)))))=some (r1,r2,r3):=h;clear h;have HC3:=Aside0.mk H;clear H
 go_enter Tryd.func58,Tryd.ntmps58
 go_upto_region 1 with (fail)
 go_cut [18] (fun v18 wc=>∃(kq:Nat) (x18_2:Bool),v18=.bool x18_2∧Aside0 (wire_Int.j0 kq a0 a1 x18_2=some (r1,r2,r3))∧Aside0 (kq<=k)∧Drawn0 w wc)
 case first=>
  have H:=HC3.out;clear HC3
  by_cases c4:a1<0
  ·rw[if_pos c4] at H;have c4b0:decide (a1<0)=true:=decide_eq_true c4;clear c4
   (first |rw[c4b0] |(simp only[i64_w,i32_w];rw[c4b0]) |skip)
   have H':=Aside0.mk H;clear H
   go_wp2
   go_meet
   case rel=>exact⟨_,(true),(by first |rfl |(simp;done) |(simp[*];done)),H',⟨by first |omega |exact Nat.le_refl _⟩,by repeat (first |exact Drawn0.refl _ |apply Drawn0.step)⟩
  ·rw[if_neg c4] at H;have c4b0:decide (a1<0)=false:=decide_eq_false c4;clear c4
   (first |rw[c4b0] |(simp only[i64_w,i32_w];rw[c4b0]) |skip)
   have H':=Aside0.mk H;clear H
   go_wp2
   go_meet
   case rel=>exact⟨_,(decide (a1>(a0.size:Int))),(by first |rfl |(simp;done) |(simp[*];done)),H',⟨by first |omega |exact Nat.le_refl _⟩,by repeat (first |exact Drawn0.refl _ |apply Drawn0.step)⟩
 case rest=>
  clear HC3
  (try clear p2);(try clear c4);(try clear c4b0)
  obtain⟨kq,x18_2,rfl,HA,HJ2,⟨mc2,rfl⟩⟩:=hcut
  cases kq with
  |zero=>exact absurd HA.out (by simp[wire_Int.j0])
  |succ kj2=>
   have H:=HA.out;clear HA;simp only[wire_Int.j0] at H
   by_cases c5:x18_2=true
   ·subst c5;have H1:(some (0,0,2))=some (r1,r2,r3):=by rw[if_pos rfl] at H;exact H
    clear H;have H:=H1;clear H1;simp only[Option.some.injEq,Prod.mk.injEq] at H;obtain⟨rfl,rfl,rfl⟩:=H
    go_wp2
    go_ret3
    exact⟨by first |rfl |(simp;done) |(simp[*];done),by repeat (first |exact Drawn0.refl _ |apply Drawn0.step)⟩
   ·replace c5:=Bool.eq_false_iff.mpr c5;subst c5;have H1:(wire_Int.l0 kj2 a0 a1 0 0)=some (r1,r2,r3):=by rw[if_neg (show ¬(false=true) by decide)] at H;exact H
    clear H;have H:=H1;clear H1;have H':=Aside0.mk H;clear H
    go_wp2
    go_loopg [7,19] kj2 (fun kq v7 v19 w'=>∃(x7_2:Int) (x19_2:Int),v7=.int .u64 x7_2∧v19=.int .i64 x19_2∧Aside0 (wire_Int.l0 kq a0 a1 x7_2 x19_2=some (r1,r2,r3))∧Aside0 (kq<=kj2)∧Drawn0 w w')
    case atStart=>exact⟨(0),(0),(by first |rfl |(simp;done) |(simp[*];done)),(by first |rfl |(simp;done) |(simp[*];done)),H',⟨Nat.le_refl _⟩,by repeat (first |exact Drawn0.refl _ |apply Drawn0.step)⟩
    case round=>
     clear H'
     (try clear c2);(try clear p2);(try clear c4);(try clear c4b0);(try clear c5);(try clear p2)
     obtain⟨x7_2,x19_2,rfl,rfl,HA,HK2,⟨m2,rfl⟩⟩:=hrel
     cases gk with
     |zero=>exact absurd HA.out (by simp[wire_Int.l0])
     |succ k2=>
      have H:=HA.out;clear HA;simp only[wire_Int.l0] at H
      by_cases c6:x19_2<9
      ·rw[if_pos c6] at H;have c6b0:decide (x19_2<9)=true:=decide_eq_true c6;clear c6
       by_cases c7:(wrap64 (a1+x19_2))>=(a0.size:Int)
       ·rw[if_pos c7] at H;have c7b0:decide ((a0.size:Int)<=(wrap64 (a1+x19_2)))=true:=decide_eq_true c7;clear c7;simp only[Option.some.injEq,Prod.mk.injEq] at H;obtain⟨rfl,rfl,rfl⟩:=H
        go_wp2
        go_ret3
        exact⟨by first |rfl |(simp;done) |(simp[*];done),by repeat (first |exact Drawn0.refl _ |apply Drawn0.step)⟩
       ·rw[if_neg c7] at H;have c7b0:decide ((a0.size:Int)<=(wrap64 (a1+x19_2)))=false:=decide_eq_false c7;clear c7;obtain⟨ji8,hji8⟩:∃j_:Int,(wrap64 (a1+x19_2))=j_:=⟨_,rfl⟩
        replace H:(if 0<=(ji8) then (if (ji8)<(a0.size:Int) then (if 0<=(wrap64 (7*x19_2)) then (if (bt a0 (ji8))>=128 then (wire_Int.l0 k2 a0 a1 (Go.bits .or .u64 x7_2 (shl .u64 (IntKind.u64.wrap (Go.bits .and .u8 (bt a0 (ji8)) 127)) (wrap64 (7*x19_2)))) (wrap64 (x19_2+1))) else (if (bt a0 (ji8))=0 then (if x19_2>0 then (some (0,0,10)) else (if (Go.bits .xor .i64 (wrap64 ((Go.bits .or .u64 x7_2 (shl .u64 (IntKind.u64.wrap (Go.bits .and .u8 (bt a0 (ji8)) 127)) (wrap64 (7*x19_2)))) / 2)) (wrap64 (-(wrap64 (Go.bits .and .u64 (Go.bits .or .u64 x7_2 (shl .u64 (IntKind.u64.wrap (Go.bits .and .u8 (bt a0 (ji8)) 127)) (wrap64 (7*x19_2)))) 1)))))<(-4611686018427387903) then (some (0,0,10)) else (some (Go.bits .xor .i64 (wrap64 ((Go.bits .or .u64 x7_2 (shl .u64 (IntKind.u64.wrap (Go.bits .and .u8 (bt a0 (ji8)) 127)) (wrap64 (7*x19_2)))) / 2)) (wrap64 (-(wrap64 (Go.bits .and .u64 (Go.bits .or .u64 x7_2 (shl .u64 (IntKind.u64.wrap (Go.bits .and .u8 (bt a0 (ji8)) 127)) (wrap64 (7*x19_2)))) 1)))),wrap64 ((ji8)+1),0)))) else (if (Go.bits .xor .i64 (wrap64 ((Go.bits .or .u64 x7_2 (shl .u64 (IntKind.u64.wrap (Go.bits .and .u8 (bt a0 (ji8)) 127)) (wrap64 (7*x19_2)))) / 2)) (wrap64 (-(wrap64 (Go.bits .and .u64 (Go.bits .or .u64 x7_2 (shl .u64 (IntKind.u64.wrap (Go.bits .and .u8 (bt a0 (ji8)) 127)) (wrap64 (7*x19_2)))) 1)))))<(-4611686018427387903) then (some (0,0,10)) else (some (Go.bits .xor .i64 (wrap64 ((Go.bits .or .u64 x7_2 (shl .u64 (IntKind.u64.wrap (Go.bits .and .u8 (bt a0 (ji8)) 127)) (wrap64 (7*x19_2)))) / 2)) (wrap64 (-(wrap64 (Go.bits .and .u64 (Go.bits .or .u64 x7_2 (shl .u64 (IntKind.u64.wrap (Go.bits .and .u8 (bt a0 (ji8)) 127)) (wrap64 (7*x19_2)))) 1)))),wrap64 ((ji8)+1),0))))) else (none)) else (none)) else (none))=some (r1,r2,r3):=by first |(rw[hji8] at H;exact H) |(simp only[hji8] at H ⊢;exact H)
        (try rw[hji8] at c7b0)
        have hji8w:(IntKind.i64.wrap (a1+x19_2))=ji8:=(i64_w _).trans hji8
        by_cases c9:0<=(ji8)
        ·rw[if_pos c9] at H;have c9b0:decide (0<=(ji8))=true:=decide_eq_true c9;clear c9
         by_cases c10:(ji8)<(a0.size:Int)
         ·rw[if_pos c10] at H;have c10b0:decide ((ji8)<(a0.size:Int))=true:=decide_eq_true c10;clear c10;obtain⟨ji12,hji12⟩:∃j_:Int,(wrap64 (7*x19_2))=j_:=⟨_,rfl⟩
          replace H:(if 0<=(ji12) then (if (bt a0 (ji8))>=128 then (wire_Int.l0 k2 a0 a1 (Go.bits .or .u64 x7_2 (shl .u64 (IntKind.u64.wrap (Go.bits .and .u8 (bt a0 (ji8)) 127)) (ji12))) (wrap64 (x19_2+1))) else (if (bt a0 (ji8))=0 then (if x19_2>0 then (some (0,0,10)) else (if (Go.bits .xor .i64 (wrap64 ((Go.bits .or .u64 x7_2 (shl .u64 (IntKind.u64.wrap (Go.bits .and .u8 (bt a0 (ji8)) 127)) (ji12))) / 2)) (wrap64 (-(wrap64 (Go.bits .and .u64 (Go.bits .or .u64 x7_2 (shl .u64 (IntKind.u64.wrap (Go.bits .and .u8 (bt a0 (ji8)) 127)) (ji12))) 1)))))<(-4611686018427387903) then (some (0,0,10)) else (some (Go.bits .xor .i64 (wrap64 ((Go.bits .or .u64 x7_2 (shl .u64 (IntKind.u64.wrap (Go.bits .and .u8 (bt a0 (ji8)) 127)) (ji12))) / 2)) (wrap64 (-(wrap64 (Go.bits .and .u64 (Go.bits .or .u64 x7_2 (shl .u64 (IntKind.u64.wrap (Go.bits .and .u8 (bt a0 (ji8)) 127)) (ji12))) 1)))),wrap64 ((ji8)+1),0)))) else (if (Go.bits .xor .i64 (wrap64 ((Go.bits .or .u64 x7_2 (shl .u64 (IntKind.u64.wrap (Go.bits .and .u8 (bt a0 (ji8)) 127)) (ji12))) / 2)) (wrap64 (-(wrap64 (Go.bits .and .u64 (Go.bits .or .u64 x7_2 (shl .u64 (IntKind.u64.wrap (Go.bits .and .u8 (bt a0 (ji8)) 127)) (ji12))) 1)))))<(-4611686018427387903) then (some (0,0,10)) else (some (Go.bits .xor .i64 (wrap64 ((Go.bits .or .u64 x7_2 (shl .u64 (IntKind.u64.wrap (Go.bits .and .u8 (bt a0 (ji8)) 127)) (ji12))) / 2)) (wrap64 (-(wrap64 (Go.bits .and .u64 (Go.bits .or .u64 x7_2 (shl .u64 (IntKind.u64.wrap (Go.bits .and .u8 (bt a0 (ji8)) 127)) (ji12))) 1)))),wrap64 ((ji8)+1),0))))) else (none))=some (r1,r2,r3):=by first |(rw[hji12] at H;exact H) |(simp only[hji12] at H ⊢;exact H)
          have hji12w:(IntKind.i64.wrap (7*x19_2))=ji12:=(i64_w _).trans hji12
          by_cases c13:0<=(ji12)
          ·rw[if_pos c13] at H;have c13b0:=eq_true c13;have c13b1:decide (0<=(ji12))=true:=decide_eq_true c13;clear c13;obtain⟨ji14,hji14⟩:∃j_:Int,(shl .u64 (IntKind.u64.wrap (Go.bits .and .u8 (bt a0 (ji8)) 127)) (ji12))=j_:=⟨_,rfl⟩
           replace H:(if (bt a0 (ji8))>=128 then (wire_Int.l0 k2 a0 a1 (Go.bits .or .u64 x7_2 (ji14)) (wrap64 (x19_2+1))) else (if (bt a0 (ji8))=0 then (if x19_2>0 then (some (0,0,10)) else (if (Go.bits .xor .i64 (wrap64 ((Go.bits .or .u64 x7_2 (ji14)) / 2)) (wrap64 (-(wrap64 (Go.bits .and .u64 (Go.bits .or .u64 x7_2 (ji14)) 1)))))<(-4611686018427387903) then (some (0,0,10)) else (some (Go.bits .xor .i64 (wrap64 ((Go.bits .or .u64 x7_2 (ji14)) / 2)) (wrap64 (-(wrap64 (Go.bits .and .u64 (Go.bits .or .u64 x7_2 (ji14)) 1)))),wrap64 ((ji8)+1),0)))) else (if (Go.bits .xor .i64 (wrap64 ((Go.bits .or .u64 x7_2 (ji14)) / 2)) (wrap64 (-(wrap64 (Go.bits .and .u64 (Go.bits .or .u64 x7_2 (ji14)) 1)))))<(-4611686018427387903) then (some (0,0,10)) else (some (Go.bits .xor .i64 (wrap64 ((Go.bits .or .u64 x7_2 (ji14)) / 2)) (wrap64 (-(wrap64 (Go.bits .and .u64 (Go.bits .or .u64 x7_2 (ji14)) 1)))),wrap64 ((ji8)+1),0)))))=some (r1,r2,r3):=by first |(rw[hji14] at H;exact H) |(simp only[hji14] at H ⊢;exact H)
           have hji14_:(IntKind.u64.wrap ((IntKind.u64.wrap (Go.bits .and .u8 (bt a0 (ji8)) 127))*2 ^ min (ji12).toNat 64))=ji14:=hji14;have hji14z:(ji12)<=64->(IntKind.u64.wrap ((IntKind.u64.wrap (Go.bits .and .u8 (bt a0 (ji8)) 127))*2 ^ (ji12).toNat))=ji14:=shl_small hji14
           by_cases c15:(bt a0 (ji8))>=128
           ·rw[if_pos c15] at H;have c15b0:decide (128<=(bt a0 (ji8)))=true:=decide_eq_true c15;clear c15;have H':=Aside0.mk H;clear H;have p11:0<=((ji8):Int):=of_decide_eq_true (by first |(with_reducible assumption) |assumption);have q11:(ji8)<(a0.size:Int):=of_decide_eq_true (by first |(with_reducible assumption) |assumption);have hx11:=bt_at a0 (ji8);replace p11:=eq_true p11;replace q11:=eq_true q11
            go_wp2
            go_roundg k2
            case measure=>have:=HJ2.out;have:=HK2.out;omega
            case rel=>exact⟨(Go.bits .or .u64 x7_2 (ji14)),(wrap64 (x19_2+1)),(by first |rfl |(simp;done) |(simp only[<-hji14]<;>(first |rfl |simp)) |(simp[*];done)),(by first |rfl |(simp;done) |(simp[*];done)),H',⟨by have:=HJ2.out;have:=HK2.out;omega⟩,by repeat (first |exact Drawn0.refl _ |apply Drawn0.step)⟩
           ·rw[if_neg c15] at H;have c15b0:decide (128<=(bt a0 (ji8)))=false:=decide_eq_false c15;clear c15
            by_cases c16:(bt a0 (ji8))=0
            ·rw[if_pos c16] at H;have c16b0:((bt a0 (ji8))==0)=true:=beq_iff_eq.mpr c16;have c16b1:((bt a0 (ji8)) !=0)=false:=bne_eq_false_iff_eq.mpr c16;clear c16
             by_cases c17:x19_2>0
             ·rw[if_pos c17] at H;have c17b0:decide (0<x19_2)=true:=decide_eq_true c17;clear c17;simp only[Option.some.injEq,Prod.mk.injEq] at H;obtain⟨rfl,rfl,rfl⟩:=H;have p11:0<=((ji8):Int):=of_decide_eq_true (by first |(with_reducible assumption) |assumption);have q11:(ji8)<(a0.size:Int):=of_decide_eq_true (by first |(with_reducible assumption) |assumption);have hx11:=bt_at a0 (ji8);replace p11:=eq_true p11;replace q11:=eq_true q11
              go_wp2
              go_ret3
              exact⟨by first |rfl |(simp;done) |(simp only[<-hji8, <-hji12, <-hji14]<;>(first |rfl |simp)) |(simp[*];done),by repeat (first |exact Drawn0.refl _ |apply Drawn0.step)⟩
             ·rw[if_neg c17] at H;have c17b0:decide (0<x19_2)=false:=decide_eq_false c17;clear c17
              by_cases c18:(Go.bits .xor .i64 (wrap64 ((Go.bits .or .u64 x7_2 (ji14)) / 2)) (wrap64 (-(wrap64 (Go.bits .and .u64 (Go.bits .or .u64 x7_2 (ji14)) 1)))))<(-4611686018427387903)
              ·rw[if_pos c18] at H;have c18b0:decide ((Go.bits .xor .i64 (wrap64 ((Go.bits .or .u64 x7_2 (ji14)) / 2)) (wrap64 (-(wrap64 (Go.bits .and .u64 (Go.bits .or .u64 x7_2 (ji14)) 1)))))<(-4611686018427387903))=true:=decide_eq_true c18;clear c18;simp only[Option.some.injEq,Prod.mk.injEq] at H;obtain⟨rfl,rfl,rfl⟩:=H;have p11:0<=((ji8):Int):=of_decide_eq_true (by first |(with_reducible assumption) |assumption);have q11:(ji8)<(a0.size:Int):=of_decide_eq_true (by first |(with_reducible assumption) |assumption);have hx11:=bt_at a0 (ji8);replace p11:=eq_true p11;replace q11:=eq_true q11
               go_wp2
               go_ret3
               exact⟨by first |rfl |(simp;done) |(simp only[<-hji8, <-hji12, <-hji14]<;>(first |rfl |simp)) |(simp[*];done),by repeat (first |exact Drawn0.refl _ |apply Drawn0.step)⟩
              ·rw[if_neg c18] at H;have c18b0:decide ((Go.bits .xor .i64 (wrap64 ((Go.bits .or .u64 x7_2 (ji14)) / 2)) (wrap64 (-(wrap64 (Go.bits .and .u64 (Go.bits .or .u64 x7_2 (ji14)) 1)))))<(-4611686018427387903))=false:=decide_eq_false c18;clear c18;simp only[Option.some.injEq,Prod.mk.injEq] at H;obtain⟨rfl,rfl,rfl⟩:=H;have p11:0<=((ji8):Int):=of_decide_eq_true (by first |(with_reducible assumption) |assumption);have q11:(ji8)<(a0.size:Int):=of_decide_eq_true (by first |(with_reducible assumption) |assumption);have hx11:=bt_at a0 (ji8);replace p11:=eq_true p11;replace q11:=eq_true q11
               go_wp2
               go_ret3
               exact⟨by first |rfl |(simp;done) |(simp only[<-hji8, <-hji12, <-hji14]<;>(first |rfl |simp)) |(simp[*];done),by repeat (first |exact Drawn0.refl _ |apply Drawn0.step)⟩
            ·rw[if_neg c16] at H;have c16b0:((bt a0 (ji8))==0)=false:=beq_eq_false_iff_ne.mpr c16;have c16b1:((bt a0 (ji8)) !=0)=true:=bne_iff_ne.mpr c16
             by_cases c19:(Go.bits .xor .i64 (wrap64 ((Go.bits .or .u64 x7_2 (ji14)) / 2)) (wrap64 (-(wrap64 (Go.bits .and .u64 (Go.bits .or .u64 x7_2 (ji14)) 1)))))<(-4611686018427387903)
             ·rw[if_pos c19] at H;have c19b0:decide ((Go.bits .xor .i64 (wrap64 ((Go.bits .or .u64 x7_2 (ji14)) / 2)) (wrap64 (-(wrap64 (Go.bits .and .u64 (Go.bits .or .u64 x7_2 (ji14)) 1)))))<(-4611686018427387903))=true:=decide_eq_true c19;clear c19;simp only[Option.some.injEq,Prod.mk.injEq] at H;obtain⟨rfl,rfl,rfl⟩:=H;have p11:0<=((ji8):Int):=of_decide_eq_true (by first |(with_reducible assumption) |assumption);have q11:(ji8)<(a0.size:Int):=of_decide_eq_true (by first |(with_reducible assumption) |assumption);have hx11:=bt_at a0 (ji8);replace p11:=eq_true p11;replace q11:=eq_true q11
              go_wp2
              go_ret3
              exact⟨by first |rfl |(simp;done) |(simp only[<-hji8, <-hji12, <-hji14]<;>(first |rfl |simp)) |(simp[*];done),by repeat (first |exact Drawn0.refl _ |apply Drawn0.step)⟩
             ·rw[if_neg c19] at H;have c19b0:decide ((Go.bits .xor .i64 (wrap64 ((Go.bits .or .u64 x7_2 (ji14)) / 2)) (wrap64 (-(wrap64 (Go.bits .and .u64 (Go.bits .or .u64 x7_2 (ji14)) 1)))))<(-4611686018427387903))=false:=decide_eq_false c19;clear c19;simp only[Option.some.injEq,Prod.mk.injEq] at H;obtain⟨rfl,rfl,rfl⟩:=H;have p11:0<=((ji8):Int):=of_decide_eq_true (by first |(with_reducible assumption) |assumption);have q11:(ji8)<(a0.size:Int):=of_decide_eq_true (by first |(with_reducible assumption) |assumption);have hx11:=bt_at a0 (ji8);replace p11:=eq_true p11;replace q11:=eq_true q11
              go_wp2
              go_ret3
              exact⟨by first |rfl |(simp;done) |(simp only[<-hji8, <-hji12, <-hji14]<;>(first |rfl |simp)) |(simp[*];done),by repeat (first |exact Drawn0.refl _ |apply Drawn0.step)⟩
          ·rw[if_neg c13] at H;exact absurd H (by simp)
         ·rw[if_neg c10] at H;exact absurd H (by simp)
        ·rw[if_neg c9] at H;exact absurd H (by simp)
      ·rw[if_neg c6] at H;have c6b0:decide (x19_2<9)=false:=decide_eq_false c6;clear c6;simp only[Option.some.injEq,Prod.mk.injEq] at H;obtain⟨rfl,rfl,rfl⟩:=H
       go_wp2
       go_ret3
       exact⟨by first |rfl |(simp;done) |(simp[*];done),by repeat (first |exact Drawn0.refl _ |apply Drawn0.step)⟩
end Go.Proofs.YtfdlmpicmkpabaaDoor.PC
end
section
namespace Go.Proofs.YtfdlmpicmkpabaaDoor.PC
open Go.Proofs.YtfdlmpicmkpabaaDoor.Ext
attribute [local go_sem] u32_signed u32_max
open Go.RowKit Go.Proofs.YtfdlmpicmkpabaaDoorW.PrintWords Go.Proofs.YtfdlmpicmkpabaaDoorW.PrintLast Go.Proofs.YtfdlmpicmkpabaaDoorW.PrintMore
attribute [local go_sem] max2_int min2_int max_two min_two max_three min_three max_four min_four -- for this text's walks alone
def wire_String.f(k:Nat)(a0:ByteArray)(a1:Int):Option (ByteArray × Int × Int):=(wire_Int.f k a0 a1).bind fun bt103=>(if bt103.2.2=0 then (if bt103.1<0 then (some ((⟨#[]⟩:ByteArray),0,10)) else (if bt103.1>65536 then (some ((⟨#[]⟩:ByteArray),0,10)) else (if bt103.1>(wrap64 ((a0.size:Int) - bt103.2.1)) then (some ((⟨#[]⟩:ByteArray),0,10)) else (if 0<=bt103.2.1 then (if bt103.2.1<=(wrap64 (bt103.2.1+bt103.1)) then (if (wrap64 (bt103.2.1+bt103.1))<=(a0.size:Int) then (some (a0.extract (bt103.2.1:Int).toNat ((wrap64 (bt103.2.1+bt103.1)):Int).toNat,wrap64 (bt103.2.1+bt103.1),0)) else (none)) else (none)) else (none))))) else (some ((⟨#[]⟩:ByteArray),0,bt103.2.2)))
set_option maxHeartbeats 8000000 in
set_option maxRecDepth 100000 in
theorem wire_String.calls(k:Nat)(a0:ByteArray)(a1:Int)(r1:ByteArray)(r2:Int)(r3:Int)(w:World)(h:wire_String.f k a0 a1=some (r1,r2,r3)):
  Calls Tryd.prog 60 #[.string a0,.int .i64 a1] w fun e w'=>e=.returned (.tuple #[.string r1,.int .i64 r2,.int .i64 r3])∧Drawn0 w w':=by
 have H:((wire_Int.f k a0 a1).bind fun bt103=>(if bt103.2.2=0 then (if bt103.1<0 then (some ((⟨#[]⟩:ByteArray),0,10)) else (if bt103.1>65536 then (some ((⟨#[]⟩:ByteArray),0,10)) else (if bt103.1>(wrap64 ((a0.size:Int) - bt103.2.1)) then (some ((⟨#[]⟩:ByteArray),0,10)) else (if 0<=bt103.2.1 then (if bt103.2.1<=(wrap64 (bt103.2.1+bt103.1)) then (if (wrap64 (bt103.2.1+bt103.1))<=(a0.size:Int) then (some (a0.extract (bt103.2.1:Int).toNat ((wrap64 (bt103.2.1+bt103.1)):Int).toNat,wrap64 (bt103.2.1+bt103.1),0)) else (none)) else (none)) else (none))))) else (some ((⟨#[]⟩:ByteArray),0,bt103.2.2))))=some (r1,r2,r3):=h;clear h;replace H:=Option.bind_eq_some_iff.mp H;obtain⟨⟨t103,t104,t105⟩,A30,H⟩:=H;replace H:(if t105=0 then (if t103<0 then (some ((⟨#[]⟩:ByteArray),0,10)) else (if t103>65536 then (some ((⟨#[]⟩:ByteArray),0,10)) else (if t103>(wrap64 ((a0.size:Int) - t104)) then (some ((⟨#[]⟩:ByteArray),0,10)) else (if 0<=t104 then (if t104<=(wrap64 (t104+t103)) then (if (wrap64 (t104+t103))<=(a0.size:Int) then (some (a0.extract (t104:Int).toNat ((wrap64 (t104+t103)):Int).toNat,wrap64 (t104+t103),0)) else (none)) else (none)) else (none))))) else (some ((⟨#[]⟩:ByteArray),0,t105)))=some (r1,r2,r3):=H;have A3:=Aside0.mk A30;clear A30
 by_cases c4:t105=0
 ·rw[if_pos c4] at H;have c4b0:(t105==0)=true:=beq_iff_eq.mpr c4;have c4b1:(t105 !=0)=false:=bne_eq_false_iff_eq.mpr c4;clear c4
  by_cases c5:t103<0
  ·rw[if_pos c5] at H;have c5b0:decide (t103<0)=true:=decide_eq_true c5;clear c5;simp only[Option.some.injEq,Prod.mk.injEq] at H;obtain⟨rfl,rfl,rfl⟩:=H
   go_enter Tryd.func60,Tryd.ntmps60
   go_wp2_with (first |((with_reducible refine gate_callee (f:=58) rfl ?_);refine goesL_ (some 13) rfl rfl Tryd.func58 (by kernel_rfl) rfl #[.string a0,.int .i64 a1] rfl (by (try simp only[List.map_toArray,List.map_cons,List.map_nil]);first |done |rfl |(simp only[List.length_drop,List.length_take];rfl)) ?_;(with_reducible refine (wire_Int.calls k a0 a1 t103 t104 t105 _ A3.out).mono ?_);rintro e w' ⟨rfl,⟨nd,rfl⟩⟩;refine⟨_,rfl,?_⟩))
   go_ret3
   exact⟨by first |rfl |(simp;done) |(simp[*];done),by repeat (first |exact Drawn0.refl _ |apply Drawn0.step)⟩
  ·rw[if_neg c5] at H;have c5b0:decide (t103<0)=false:=decide_eq_false c5;clear c5
   by_cases c6:t103>65536
   ·rw[if_pos c6] at H;have c6b0:decide (65536<t103)=true:=decide_eq_true c6;clear c6;simp only[Option.some.injEq,Prod.mk.injEq] at H;obtain⟨rfl,rfl,rfl⟩:=H
    go_enter Tryd.func60,Tryd.ntmps60
    go_wp2_with (first |((with_reducible refine gate_callee (f:=58) rfl ?_);refine goesL_ (some 13) rfl rfl Tryd.func58 (by kernel_rfl) rfl #[.string a0,.int .i64 a1] rfl (by (try simp only[List.map_toArray,List.map_cons,List.map_nil]);first |done |rfl |(simp only[List.length_drop,List.length_take];rfl)) ?_;(with_reducible refine (wire_Int.calls k a0 a1 t103 t104 t105 _ A3.out).mono ?_);rintro e w' ⟨rfl,⟨nd,rfl⟩⟩;refine⟨_,rfl,?_⟩))
    go_ret3
    exact⟨by first |rfl |(simp;done) |(simp[*];done),by repeat (first |exact Drawn0.refl _ |apply Drawn0.step)⟩
   ·rw[if_neg c6] at H;have c6b0:decide (65536<t103)=false:=decide_eq_false c6;clear c6
    by_cases c7:t103>(wrap64 ((a0.size:Int) - t104))
    ·rw[if_pos c7] at H;have c7b0:decide ((wrap64 ((a0.size:Int) - t104))<t103)=true:=decide_eq_true c7;clear c7;simp only[Option.some.injEq,Prod.mk.injEq] at H;obtain⟨rfl,rfl,rfl⟩:=H
     go_enter Tryd.func60,Tryd.ntmps60
     go_wp2_with (first |((with_reducible refine gate_callee (f:=58) rfl ?_);refine goesL_ (some 13) rfl rfl Tryd.func58 (by kernel_rfl) rfl #[.string a0,.int .i64 a1] rfl (by (try simp only[List.map_toArray,List.map_cons,List.map_nil]);first |done |rfl |(simp only[List.length_drop,List.length_take];rfl)) ?_;(with_reducible refine (wire_Int.calls k a0 a1 t103 t104 t105 _ A3.out).mono ?_);rintro e w' ⟨rfl,⟨nd,rfl⟩⟩;refine⟨_,rfl,?_⟩))
     go_ret3
     exact⟨by first |rfl |(simp;done) |(simp[*];done),by repeat (first |exact Drawn0.refl _ |apply Drawn0.step)⟩
    ·rw[if_neg c7] at H;have c7b0:decide ((wrap64 ((a0.size:Int) - t104))<t103)=false:=decide_eq_false c7;clear c7
     by_cases c8:0<=t104
     ·rw[if_pos c8] at H;have c8b0:=eq_true c8;have c8b1:decide (0<=t104)=true:=decide_eq_true c8;clear c8
      by_cases c9:t104<=(wrap64 (t104+t103))
      ·rw[if_pos c9] at H;have c9b0:=eq_true c9;have c9b1:decide (t104<=(wrap64 (t104+t103)))=true:=decide_eq_true c9
       by_cases c10:(wrap64 (t104+t103))<=(a0.size:Int)
       ·rw[if_pos c10] at H;have c10b0:=eq_true c10;have c10b1:decide ((wrap64 (t104+t103))<=(a0.size:Int))=true:=decide_eq_true c10;obtain⟨js11,hjs11⟩:∃s_:ByteArray,(a0.extract (t104:Int).toNat ((wrap64 (t104+t103)):Int).toNat)=s_:=⟨_,rfl⟩
        replace H:(some (js11,wrap64 (t104+t103),0))=some (r1,r2,r3):=by first |(rw[hjs11] at H;exact H) |(simp only[hjs11] at H ⊢;exact H) |exact H
        simp only[Option.some.injEq,Prod.mk.injEq] at H;obtain⟨rfl,rfl,rfl⟩:=H
        go_enter Tryd.func60,Tryd.ntmps60
        go_wp2_with (first |((with_reducible refine gate_callee (f:=58) rfl ?_);refine goesL_ (some 13) rfl rfl Tryd.func58 (by kernel_rfl) rfl #[.string a0,.int .i64 a1] rfl (by (try simp only[List.map_toArray,List.map_cons,List.map_nil]);first |done |rfl |(simp only[List.length_drop,List.length_take];rfl)) ?_;(with_reducible refine (wire_Int.calls k a0 a1 t103 t104 t105 _ A3.out).mono ?_);rintro e w' ⟨rfl,⟨nd,rfl⟩⟩;refine⟨_,rfl,?_⟩))
        go_ret3
        exact⟨by first |rfl |(simp;done) |(simp only[<-hjs11]<;>(first |rfl |simp)) |(simp[*];done),by repeat (first |exact Drawn0.refl _ |apply Drawn0.step)⟩
       ·rw[if_neg c10] at H;exact absurd H (by simp)
      ·rw[if_neg c9] at H;exact absurd H (by simp)
     ·rw[if_neg c8] at H;exact absurd H (by simp)
 ·rw[if_neg c4] at H;have c4b0:(t105==0)=false:=beq_eq_false_iff_ne.mpr c4;have c4b1:(t105 !=0)=true:=bne_iff_ne.mpr c4;simp only[Option.some.injEq,Prod.mk.injEq] at H;obtain⟨rfl,rfl,rfl⟩:=H
  go_enter Tryd.func60,Tryd.ntmps60
  go_wp2_with (first |((with_reducible refine gate_callee (f:=58) rfl ?_);refine goesL_ (some 13) rfl rfl Tryd.func58 (by kernel_rfl) rfl #[.string a0,.int .i64 a1] rfl (by (try simp only[List.map_toArray,List.map_cons,List.map_nil]);first |done |rfl |(simp only[List.length_drop,List.length_take];rfl)) ?_;(with_reducible refine (wire_Int.calls k a0 a1 t103 t104 t105 _ A3.out).mono ?_);rintro e w' ⟨rfl,⟨nd,rfl⟩⟩;refine⟨_,rfl,?_⟩))
  go_ret3
  exact⟨by first |rfl |(simp;done) |(simp[*];done),by repeat (first |exact Drawn0.refl _ |apply Drawn0.step)⟩
end Go.Proofs.YtfdlmpicmkpabaaDoor.PC
end
section
namespace Go.Proofs.YtfdlmpicmkpabaaDoor.WireSpec
set_option maxRecDepth 100000
open Go.RowKit Go.Proofs.YtfdlmpicmkpabaaDoorW.PrintWords Go.Proofs.YtfdlmpicmkpabaaDoorW.PrintLast Go.Proofs.YtfdlmpicmkpabaaDoorW.PrintMore Go.Proofs.YtfdlmpicmkpabaaDoor.Ext Go.Proofs.YtfdlmpicmkpabaaDoor.PC Go.Proofs.YtfdlmpicmkpabaaDoor.PB Leb
theorem w64{x:Int}(h1: -9223372036854775808<=x)(h2:x<9223372036854775808):wrap64 x=x:=by unfold wrap64;omega
theorem nat_at(s:ByteArray)(k:Nat)(h:k<s.size):(nat s)[k]'(by rw[nat_length];exact h)=s[k].toNat:=by
 simp[nat];rfl
theorem bt_at_nat(s:ByteArray)(i:Nat)(h:i<s.size):bt s (i:Int)=(((nat s)[i]'(by rw[nat_length];exact h):Nat):Int):=by
 rw[nat_at s i h];unfold bt;simp[h]
theorem drop_cons{s:ByteArray}{a:Nat}{pre rest:List Nat}{b:Nat}(h:(nat s).drop a=pre++b::rest):∃hl:a+pre.length<s.size,(nat s)[a+pre.length]'(by rw[nat_length];exact hl)=b∧b<256:=by
 have hl:a+pre.length<s.size:=by
  have:=congrArg List.length h;simp[nat_length] at this;omega
 refine⟨hl,?_,?_⟩
 ·have:=congrArg (fun l=>l[pre.length]?) h;simp only[List.getElem?_drop,List.getElem?_append_right (Nat.le_refl _),Nat.sub_self,List.getElem?_cons_zero] at this;exact (List.getElem?_eq_some_iff.1 this).2
 ·have:b ∈ (nat s).drop a:=by rw[h];simp
  exact nat_lt s b (List.mem_of_mem_drop this)
def scan:Nat->List Nat->List Nat->Option (List Nat)
 |0,_,_=>none
 |_+1,_,[]=>none
 |f+1,pre,b::l=>if 128<=b then scan f (pre++[b]) l else some (pre++[b])
def fin(a:Nat):Option (List Nat)->Int × Int × Int
 |none=>(0,0,10)
 |some c=>if leb (val c)=c∧val c<9223372036854775807 then (zag (val c),((a+c.length:Nat):Int),0) else (0,0,10)
theorem val_snoc(l:List Nat)(b:Nat):val (l++[b])=val l+b%128*128 ^ l.length:=by
 induction l with
 |nil=>simp[val]
 |cons c l ih=>
  simp only[List.cons_append,val,ih,List.length_cons,Nat.pow_succ];rw[Nat.mul_add, <-Nat.add_assoc];congr 1;rw[Nat.mul_left_comm,Nat.mul_comm 128]
theorem val_lt(l:List Nat):val l<128 ^ l.length:=by
 induction l with
 |nil=>simp[val]
 |cons c l ih=>simp only[val,List.length_cons,Nat.pow_succ];omega
theorem pow7(i:Nat):(128:Nat) ^ i=2 ^ (7*i):=by rw[Nat.pow_mul]
theorem acc_step(x b i:Nat)(hx:x<128 ^ i)(hi:i<=8)(hb:b<256):
  Go.bits .or .u64 (x:Int) (shl .u64 (IntKind.u64.wrap (Go.bits .and .u8 (b:Int) 127)) (wrap64 (7*(i:Int))))=((x+b%128*128 ^ i:Nat):Int):=by
 have e1:Go.bits .and .u8 (b:Int) 127=((b%128:Nat):Int):=by
  have:=u8_and_nat b 127 hb (by decide);rw[nat_mask7] at this;exact this
 have e2:wrap64 (7*(i:Int))=((7*i:Nat):Int):=by unfold wrap64;omega
 have hp:128 ^ i<=128 ^ 8:=Nat.pow_le_pow_right (by decide) hi;have hm:b%128*128 ^ i<18446744073709551616:=by
  have:b%128*128 ^ i<=127*128 ^ 8:=Nat.mul_le_mul (by omega) hp;omega
 have e3:shl .u64 (IntKind.u64.wrap ((b%128:Nat):Int)) ((7*i:Nat):Int)=((b%128*128 ^ i:Nat):Int):=by
  have hx1:IntKind.u64.wrap ((b%128:Nat):Int)=((b%128:Nat):Int):=by rw[IntKind.wrap_u64];omega
  unfold shl;rw[hx1];have h64:min ((7*i:Nat):Int).toNat IntKind.u64.bits=7*i:=by simp[IntKind.bits];omega
  rw[h64,show ((2:Int) ^ (7*i))=((128 ^ i:Nat):Int) by rw[pow7];simp, <-Int.natCast_mul,IntKind.wrap_u64];generalize b%128*128 ^ i=q at hm ⊢;omega
 rw[e1,e2,e3,u64_or_nat _ _ (by omega) hm,Nat.or_comm];congr 1;rw[pow7] at hx ⊢;rw[Nat.mul_comm (b%128), <-Nat.two_pow_add_eq_or_of_lt hx,Nat.add_comm]
theorem zag_bits(z:Nat)(h:z<9223372036854775808):
  Go.bits .xor .i64 (wrap64 ((z:Int) / 2)) (wrap64 (-(wrap64 (Go.bits .and .u64 (z:Int) 1))))=zag z:=by
 have e1:Go.bits .and .u64 (z:Int) 1=((z%2:Nat):Int):=by
  have:=u64_and_nat z 1 (by omega) (by decide);rw[nat_mask1] at this;exact this
 have e2:wrap64 ((z:Int) / 2)=((z / 2:Nat):Int):=by unfold wrap64;omega
 rw[e1,e2];unfold zag;rcases Nat.mod_two_eq_zero_or_one z with h0 |h0
 ·rw[h0,if_neg (by decide)];have:wrap64 (-(wrap64 ((0:Nat):Int)))=0:=by unfold wrap64;decide
  rw[this]
  show IntKind.i64.wrap ((BitVec.ofInt 64 ((z / 2:Nat):Int) ^^^ BitVec.ofInt 64 0).toNat:Int)=_
  have h2:BitVec.ofInt 64 0=0#64:=by decide
  rw[h2,BitVec.xor_zero,ofInt_u64 _ (by omega),IntKind.wrap_i64];omega
 ·rw[h0,if_pos rfl];have:wrap64 (-(wrap64 ((1:Nat):Int)))= -1:=by unfold wrap64;decide
  rw[this];have hn:=i64_not (z / 2) (by omega);have hc:Go.bits .xor .i64 ((z / 2:Nat):Int) (-1)=Go.bits .xor .i64 (-1) ((z / 2:Nat):Int):=by
   show IntKind.i64.wrap _=IntKind.i64.wrap _
   simp only[BitVec.xor_comm]
  rw[hc,hn];omega
theorem zag_low(z:Nat)(h:z<9223372036854775808):zag z< -4611686018427387903↔¬z<9223372036854775807:=by
 unfold zag;split<;>omega
theorem canon{pre:List Nat}{b:Nat}(hp:∀x ∈ pre,128<=x∧x<256)(hb:b<128):leb (val (pre++[b]))=pre++[b]↔(b≠0∨pre=[]):=by
 constructor
 ·intro h
  by_cases h0:b=0
  ·right
   subst h0
   cases pre with
   |nil=>rfl
   |cons c l=>
    exfalso
    have hv:val (c::l++[0])=val (c::l):=by rw[val_snoc];simp
    have hlt:=val_lt (c::l);have hlen:=leb_length l.length (val (c::l)) (by simpa using hlt);rw[hv] at h;have:=congrArg List.length h;simp at this;omega
  ·exact .inl h0
 ·intro h;apply leb_val
  induction pre with
  |nil=>exact hb
  |cons c l ih=>
   have hc:=hp c (by simp);have h0:b≠0:=by
    rcases h with h |h
    ·exact h
    ·cases h
   have hl:=ih (fun x hx=>hp x (by simp[hx])) (.inl h0)
   cases l with
   |nil=>exact⟨hc.1,hc.2,hl,by simpa using h0⟩
   |cons d l=>exact⟨hc.1,hc.2,hl,by simp⟩
set_option maxRecDepth 10000 in
theorem int_loop(s:ByteArray)(hs:s.size<=140737488351232)(a:Nat)(ha:a<=s.size)(f:Nat):∀(k:Nat) (pre rest:List Nat),pre.length+f=9->f<k->(nat s).drop a=pre++rest->(∀b ∈ pre,128<=b∧b<256)->
  wire_Int.l0 k s (a:Int) (val pre:Nat) (pre.length:Nat)=some (fin a (scan f pre rest)):=by
 induction f with
 |zero=>
  intro k pre rest hi hk hd hp;obtain⟨k,rfl⟩:∃m,k=m+1:=⟨k - 1,by omega⟩
  simp only[wire_Int.l0];rw[if_neg (by omega)];rfl
 |succ f ih=>
  intro k pre rest hi hk hd hp;obtain⟨k,rfl⟩:∃m,k=m+1:=⟨k - 1,by omega⟩
  have hlen:=congrArg List.length hd;simp only[List.length_drop,nat_length,List.length_append] at hlen;have hw7:0<=wrap64 (7*(pre.length:Int)):=by rw[w64 (by omega) (by omega)];omega
  have hw:wrap64 ((a:Int)+(pre.length:Int))=((a+pre.length:Nat):Int):=by unfold wrap64;omega
  simp only[wire_Int.l0];rw[if_pos (by omega),hw]
  cases rest with
  |nil=>
   simp only[List.length_nil] at hlen;rw[if_pos (by omega)];rfl
  |cons b rest=>
   simp only[List.length_cons] at hlen;obtain⟨hl,hb,hb256⟩:=drop_cons hd;have hbt:bt s ((a+pre.length:Nat):Int)=(b:Int):=by rw[bt_at_nat s _ hl,hb]
   have hpl:=val_lt pre;rw[if_neg (by omega),if_pos (by omega),if_pos (by omega),if_pos hw7,hbt,acc_step _ _ _ hpl (by omega) hb256, <-val_snoc];have h64:val (pre++[b])<9223372036854775808:=by
    have h1:=val_lt (pre++[b]);have h2:128 ^ (pre++[b]).length<=128 ^ 9:=Nat.pow_le_pow_right (by decide) (by simp;omega);omega
   by_cases h128:128<=b
   ·rw[if_pos (by omega)];have hw2:wrap64 ((pre.length:Int)+1)=((pre++[b]).length:Nat):=by unfold wrap64;simp;omega
    rw[hw2,ih k (pre++[b]) rest (by simp;omega) (by omega) (by rw[hd];simp) (fun x hx=>by
     rcases List.mem_append.1 hx with hx |hx
     ·exact hp x hx
     ·have:=List.mem_singleton.1 hx;subst this;exact⟨h128,hb256⟩)]
    simp only[scan,if_pos h128]
   ·rw[if_neg (by omega),zag_bits _ h64];have hc:=canon hp (b:=b) (by omega);have hz:=zag_low _ h64;have hw3:wrap64 (((a+pre.length:Nat):Int)+1)=((a+(pre++[b]).length:Nat):Int):=by unfold wrap64;simp;omega
    simp only[scan,if_neg h128,fin];rw[hw3]
    by_cases h0:b=0
    ·subst h0;rw[if_pos (by rfl)]
     cases pre with
     |nil=>
      rw[if_neg (by simp)]
      by_cases hbig:val ([]++[0])<9223372036854775807
      ·rw[if_neg (by rw[hz];omega),if_pos ⟨hc.2 (.inr rfl),hbig⟩]
      ·rw[if_pos (by rw[hz];omega),if_neg (fun h=>hbig h.2)]
     |cons c l=>
      rw[if_pos (by simp),if_neg (fun h=>by rcases hc.1 h.1 with h |h;exact h rfl;cases h)]
    ·rw[if_neg (by omega)]
     by_cases hbig:val (pre++[b])<9223372036854775807
     ·rw[if_neg (by rw[hz];omega),if_pos ⟨hc.2 (.inl h0),hbig⟩]
     ·rw[if_pos (by rw[hz];omega),if_neg (fun h=>hbig h.2)]
def dec(s:ByteArray)(at_:Int):Int × Int × Int:=if at_<0∨at_>(s.size:Int) then (0,0,2) else fin at_.toNat (scan 9 [] ((nat s).drop at_.toNat))
theorem int_is(s:ByteArray)(hs:s.size<=140737488351232)(at_:Int)(k:Nat)(hk:12<=k):wire_Int.f k s at_=some (dec s at_):=by
 obtain⟨k,rfl⟩:∃m,k=m+1:=⟨k - 1,by omega⟩
 unfold wire_Int.f dec
 by_cases h1:at_<0
 ·rw[if_pos h1,if_pos (.inl h1)];simp[wire_Int.j0]
 ·rw[if_neg h1]
  by_cases h2:at_>(s.size:Int)
  ·rw[if_pos (.inr h2)];simp[wire_Int.j0,h2]
  ·rw[if_neg (by omega)];obtain⟨a,rfl⟩:=Int.eq_ofNat_of_zero_le (show 0<=at_ by omega);rw[Int.toNat_natCast, <-int_loop s hs a (by omega) 9 k [] _ rfl (by omega) rfl (fun _ h=>by cases h)];simp only[wire_Int.j0];rw[if_neg (by simpa using h2)];rfl
end Go.Proofs.YtfdlmpicmkpabaaDoor.WireSpec
end
section
namespace Go.Proofs.YtfdlmpicmkpabaaDoor.WireSpec
set_option maxRecDepth 100000
open Go.RowKit Go.Proofs.YtfdlmpicmkpabaaDoorW.PrintWords Go.Proofs.YtfdlmpicmkpabaaDoorW.PrintLast Go.Proofs.YtfdlmpicmkpabaaDoorW.PrintMore Go.Proofs.YtfdlmpicmkpabaaDoor.Ext Go.Proofs.YtfdlmpicmkpabaaDoor.PC Go.Proofs.YtfdlmpicmkpabaaDoor.PB Leb
theorem nat_inj{s t:ByteArray}(h:nat s=nat t):s=t:=by
 apply ByteArray.ext
 apply Array.ext'
 have hi:∀(a b:List UInt8),a.map (·.toNat)=b.map (·.toNat)->a=b:=by
  intro a
  induction a with
  |nil=>intro b h;cases b with
   |nil=>rfl
   |cons=>simp at h
  |cons x a ih=>
   intro b h
   cases b with
   |nil=>simp at h
   |cons y b=>
    simp only[List.map_cons,List.cons.injEq] at h;rw[ih b h.2,UInt8.toNat_inj.1 h.1]
 exact hi _ _ h
theorem nat_extract(s:ByteArray)(i j:Nat):nat (s.extract i j)=((nat s).drop i).take (j - i):=by
 unfold nat;rw[<-Lib.toList_data,Lib.extract_toList];simp[List.map_take,List.map_drop]
theorem nat_str(l:List Nat)(h:∀b ∈ l,b<256):nat (str l)=l:=by
 simp only[nat,str,List.map_map];have:∀b ∈ l,((·.toNat) ∘ UInt8.ofNat) b=b:=fun b hb=>by
  simp only[Function.comp];rw[UInt8.toNat_ofNat'];exact Nat.mod_eq_of_lt (h b hb)
 rw[List.map_congr_left this];simp
theorem nat_enc(n:Int):nat (str (enc n))=enc n:=nat_str _ (leb_bytes _)
theorem toList_nat(s t:ByteArray):s.toList=t.toList↔nat s=nat t:=by
 rw[Lib.toList_data,Lib.toList_data]
 constructor
 ·intro h;unfold nat;rw[h]
 ·intro h;rw[nat_inj h]
theorem toList_eq(s t:ByteArray):s.toList=t.toList↔s=t:=by
 rw[toList_nat];exact⟨nat_inj,fun h=>by rw[h]⟩
theorem size_nat(s:ByteArray):s.size=(nat s).length:=(nat_length s).symm
theorem scan_code(f:Nat):∀(pre c y:List Nat),Leb.Code c->c.length<=f->scan f pre (c++y)=some (pre++c):=by
 induction f with
 |zero=>intro pre c y h hl;cases c with
  |nil=>exact h.elim
  |cons=>simp at hl
 |succ f ih=>
  intro pre c y h hl
  cases c with
  |nil=>exact h.elim
  |cons b c=>
   cases c with
   |nil=>
    have h':b<128:=h;simp only[List.cons_append,List.nil_append,scan];rw[if_neg (by omega)]
   |cons d c=>
    rw[code_cons] at h;simp only[List.cons_append,scan];rw[if_pos h.1];have:=ih (pre++[b]) (d::c) y h.2.2.1 (by simp at hl ⊢;omega);rw[List.cons_append] at this;rw[this];simp
theorem scan_prefix(f:Nat):∀(pre l c:List Nat),scan f pre l=some c->∃y,pre++l=c++y:=by
 induction f with
 |zero=>intro pre l c h;simp[scan] at h
 |succ f ih=>
  intro pre l c h
  cases l with
  |nil=>simp[scan] at h
  |cons b l=>
   simp only[scan] at h
   split at h
   ·obtain⟨y,hy⟩:=ih _ _ _ h;exact⟨y,by rw[<-hy];simp⟩
   ·injection h with h
    exact⟨l,by rw[<-h];simp⟩
def Starts(l:List Nat)(z:Nat)(y:List Nat):Prop:=l=leb z++y∧z<9223372036854775807
theorem leb_len9{z:Nat}(h:z<9223372036854775807):(leb z).length<=9:=leb_length 8 z (Nat.lt_trans h (by decide))
theorem fin_yes(a:Nat){l:List Nat}{z:Nat}{y:List Nat}(h:Starts l z y):fin a (scan 9 [] l)=(zag z,((a+(leb z).length:Nat):Int),0):=by
 rw[h.1,scan_code 9 [] (leb z) y (leb_code z) (leb_len9 h.2)];simp only[List.nil_append,fin];rw[val_leb,if_pos ⟨rfl,h.2⟩]
theorem fin_no(a:Nat){l:List Nat}(h:∀z y,¬Starts l z y):fin a (scan 9 [] l)=(0,0,10):=by
 cases hs:scan 9 [] l with
 |none=>rfl
 |some c=>
  obtain⟨y,hy⟩:=scan_prefix _ _ _ _ hs;simp only[fin];rw[if_neg];intro hc;exact h (val c) y ⟨by rw[hc.1];simpa using hy,hc.2⟩
theorem dec_yes(s:ByteArray)(a:Nat)(ha:a<=s.size){z:Nat}{y:List Nat}(h:Starts ((nat s).drop a) z y):dec s (a:Int)=(zag z,((a+(leb z).length:Nat):Int),0):=by
 unfold dec;rw[if_neg (by omega),Int.toNat_natCast];exact fin_yes a h
theorem dec_no(s:ByteArray)(a:Nat)(ha:a<=s.size)(h:∀z y,¬Starts ((nat s).drop a) z y):dec s (a:Int)=(0,0,10):=by
 unfold dec;rw[if_neg (by omega),Int.toNat_natCast];exact fin_no a h
theorem starts_or(l:List Nat):(∃z y,Starts l z y)∨∀z y,¬Starts l z y:=by
 by_cases h:∃z y,Starts l z y
 ·exact .inl h
 ·exact .inr fun z y hz=>h ⟨z,y,hz⟩
theorem zig_range{n:Int}(h0: -4611686018427387903<=n)(h1:n<=4611686018427387903):zig n<9223372036854775807:=by
 unfold zig;split<;>omega
theorem put_ok{n:Int}(h0: -4611686018427387903<=n)(h1:n<=4611686018427387903):wire_PutInt.f n=some (str (enc n),0):=by
 unfold wire_PutInt.f;rw[if_neg (by omega),if_neg (by omega)]
theorem enc_nat(n:Nat):enc (n:Int)=leb (2*n):=by
 unfold enc zig;rw[if_neg (by omega)];congr 1
theorem enc_len(n:Nat)(h:n<=65536):(enc (n:Int)).length<=3:=by
 rw[enc_nat];exact leb_length 2 _ (by omega)
theorem putS_ok(s:ByteArray)(h:s.size<=65536):wire_PutString.f s=some (str (enc (s.size:Int))++s,0):=by
 unfold wire_PutString.f;rw[if_neg (by omega),put_ok (by omega) (by omega)];have:=enc_len s.size h;have h2:(str (enc (s.size:Int))).size=(enc (s.size:Int)).length:=by rw[size_nat,nat_enc]
 simp only[Option.bind_some];rw[if_pos (by omega)]
def StartsS(l:List Nat)(t y:List Nat):Prop:=l=enc (t.length:Int)++(t++y)∧t.length<=65536
theorem startsS_starts{l t y:List Nat}(h:StartsS l t y):Starts l (2*t.length) (t++y):=⟨by rw[h.1,enc_nat],by have:=h.2;omega⟩
theorem str_yes(s:ByteArray)(hs:s.size<=140737488351232)(a:Nat)(ha:a<=s.size)(k:Nat)(hk:12<=k){t y:List Nat}(h:StartsS ((nat s).drop a) t y):
  ∃r,wire_String.f k s (a:Int)=some (r,((a+(enc (t.length:Int)).length+t.length:Nat):Int),0)∧nat r=t:=by
 have hst:=startsS_starts h;have hl:=congrArg List.length h.1;simp only[List.length_drop,nat_length,List.length_append] at hl;have h2:=h.2;have hz:zag (2*t.length)=(t.length:Int):=by unfold zag;split<;>omega
 refine⟨s.extract (a+(enc (t.length:Int)).length) (a+(enc (t.length:Int)).length+t.length),?_,?_⟩
 ·unfold wire_String.f;rw[int_is s hs _ k hk,dec_yes s a ha hst,hz, <-enc_nat];simp only[Option.bind_some];rw[if_pos trivial,if_neg (by omega),if_neg (by omega),if_neg (by rw[w64 (by omega) (by omega)];omega),if_pos (by omega),if_pos (by rw[w64 (by omega) (by omega)];omega),if_pos (by rw[w64 (by omega) (by omega)];omega),w64 (by omega) (by omega)];rw[show ((a+(enc (t.length:Int)).length:Nat):Int)+(t.length:Int)=((a+(enc (t.length:Int)).length+t.length:Nat):Int) by omega,Int.toNat_natCast,Int.toNat_natCast]
 ·rw[nat_extract, <-List.drop_drop,h.1,List.drop_left,Nat.add_sub_cancel_left,List.take_left]
theorem str_no(s:ByteArray)(hs:s.size<=140737488351232)(a:Nat)(ha:a<=s.size)(k:Nat)(hk:12<=k)(h:∀t y,¬StartsS ((nat s).drop a) t y):
  wire_String.f k s (a:Int)=some (⟨#[]⟩,0,10):=by
 unfold wire_String.f;rw[int_is s hs _ k hk];simp only[Option.bind_some];rcases starts_or ((nat s).drop a) with ⟨z,y,hz⟩ |hn
 ·rw[dec_yes s a ha hz];simp only;rw[if_pos trivial];have hl:=congrArg List.length hz.1;simp only[List.length_drop,nat_length,List.length_append] at hl
  by_cases h1:zag z<0
  ·rw[if_pos h1]
  ·rw[if_neg h1]
   by_cases h2:zag z>65536
   ·rw[if_pos h2]
   ·rw[if_neg h2,if_pos];have h64:wrap64 ((s.size:Int) - ((a+(leb z).length:Nat):Int))=(s.size:Int) - ((a+(leb z).length:Nat):Int):=w64 (by omega) (by omega);rw[h64];rcases Int.lt_or_le ((s.size:Int) - ((a+(leb z).length:Nat):Int)) (zag z) with h3 |h3
    ·exact h3
    ·exfalso
     obtain⟨n,hn⟩:=Int.eq_ofNat_of_zero_le (show 0<=zag z by omega);have hzn:z=2*n:=by
      have:=zig_zag z;rw[hn] at this;unfold zig at this;rw[if_neg (by omega)] at this;omega
     rw[hn] at h2 h3;refine h (y.take n) (y.drop n) ⟨?_,?_⟩
     ·rw[List.take_append_drop,List.length_take,Nat.min_eq_left (by omega),enc_nat, <-hzn,hz.1]
     ·rw[List.length_take,Nat.min_eq_left (by omega)];omega
 ·rw[dec_no s a ha hn];simp only;rw[if_neg (by decide)]
theorem startsS_or(l:List Nat):(∃t y,StartsS l t y)∨∀t y,¬StartsS l t y:=by
 by_cases h:∃z y,StartsS l z y
 ·exact .inl h
 ·exact .inr fun z y hz=>h ⟨z,y,hz⟩
theorem wf64{a:Int}(h:(Lit.int .i64 a).wf=true): -9223372036854775808<=a∧a<=9223372036854775807:=by
 simpa [Lit.wf,IntKind.min,IntKind.max,IntKind.signed,IntKind.bits] using h
theorem string_some(s:ByteArray)(hs:s.size<=140737488351232)(at_:Int)(k:Nat)(hk:12<=k):∃r,wire_String.f k s at_=some r:=by
 by_cases h:at_<0∨at_>(s.size:Int)
 ·unfold wire_String.f;rw[int_is s hs at_ k hk,dec,if_pos h,Option.bind_some,if_neg (by decide)];exact⟨_,rfl⟩
 ·obtain⟨a,rfl⟩:=Int.eq_ofNat_of_zero_le (show 0<=at_ by omega);rcases startsS_or ((nat s).drop a) with ⟨t,y,ht⟩ |hn
  ·obtain⟨r,hr,_⟩:=str_yes s hs a (by omega) k hk ht;exact⟨_,hr⟩
  ·exact⟨_,str_no s hs a (by omega) k hk hn⟩
end Go.Proofs.YtfdlmpicmkpabaaDoor.WireSpec
end
section
namespace Go.Proofs.YtfdlmpicmkpabaaDoor.WireSpec
set_option maxRecDepth 100000
open Go.RowKit Go.Proofs.YtfdlmpicmkpabaaDoorW.PrintWords Go.Proofs.YtfdlmpicmkpabaaDoorW.PrintLast Go.Proofs.YtfdlmpicmkpabaaDoorW.PrintMore Go.Proofs.YtfdlmpicmkpabaaDoor.Ext Go.Proofs.YtfdlmpicmkpabaaDoor.PC Go.Proofs.YtfdlmpicmkpabaaDoor.PB Leb
def encS(t:ByteArray):List Nat:=enc (t.size:Int)++nat t
end Go.Proofs.YtfdlmpicmkpabaaDoor.WireSpec
end
section
namespace Go.Proofs.YtfdlmpicmkpabaaDoor.Ext
set_option maxRecDepth 100000
open Go.RowKit Go.Shelf Go.Proofs.YtfdlmpicmkpabaaDoorW.PrintWords Go.Proofs.YtfdlmpicmkpabaaDoorW.PrintLast Go.Proofs.YtfdlmpicmkpabaaDoorW.PrintMore Go.Proofs.YtfdlmpicmkpabaaDoor.PB Go.Proofs.YtfdlmpicmkpabaaDoor.PC
attribute [local go_sem] Oper.semAt_some
abbrev Rec:=S43
abbrev kRec:=k43
abbrev rcells(r:Rec):List Value:=[.int .i64 r.f0,.int .i64 r.f1,.int .i64 r.f2,.int .i64 r.f3,.string r.f4]
abbrev rval(r:Rec):Value:=.agg #[.int .i64 r.f0,.int .i64 r.f1,.int .i64 r.f2,.int .i64 r.f3,.string r.f4]
def recB(r:Rec):Bool:=decide (0<=r.f0∧r.f0<=10000000∧1<=r.f1∧r.f1<=20∧ -1<=r.f2∧r.f2<=99999999∧ -1<=r.f3∧r.f3<=99999999∧r.f4.size<=200)
theorem isIn_is(a b c:Int):logbook_isIn.f a b c=some (decide (b<=a∧a<=c)):=by
 unfold logbook_isIn.f
 by_cases h:b<=a
 ·rw[if_pos h];simp[h]
 ·rw[if_neg h];simp[h]
theorem isRecord_is(r:Rec):logbook_isRecord.f r.f0 r.f1 r.f2 r.f3 r.f4=some (recB r):=by
 unfold logbook_isRecord.f recB;rw[isIn_is,Option.bind_some]
 by_cases h0:0<=r.f0∧r.f0<=10000000
 ·rw[if_pos (decide_eq_true h0),isIn_is,Option.bind_some]
  by_cases h1:1<=r.f1∧r.f1<=20
  ·rw[if_pos (decide_eq_true h1),isIn_is,Option.bind_some]
   by_cases h2: -1<=r.f2∧r.f2<=99999999
   ·rw[if_pos (decide_eq_true h2),isIn_is,Option.bind_some]
    by_cases h3: -1<=r.f3∧r.f3<=99999999
    ·rw[if_pos (decide_eq_true h3)];congr 1;exact decide_eq_decide.2 (by omega)
    ·rw[if_neg (by simpa using h3)];congr 1;exact (decide_eq_false (by omega)).symm
   ·rw[if_neg (by simpa using h2)];congr 1;exact (decide_eq_false (by omega)).symm
  ·rw[if_neg (by simpa using h1)];congr 1;exact (decide_eq_false (by omega)).symm
 ·rw[if_neg (by simpa using h0)];congr 1;exact (decide_eq_false (by omega)).symm
theorem isRecord_walk(r:Rec)(w:World):Calls Tryd.prog 51 #[rval r] w fun e w'=>e=.returned (.bool (recB r))∧Below w.heap.size w w':=
 logbook_isRecord.calls _ _ _ _ _ _ w (isRecord_is r)
theorem recB_true{r:Rec}(h:recB r=true):0<=r.f0∧r.f0<=10000000∧1<=r.f1∧r.f1<=20∧ -1<=r.f2∧r.f2<=99999999∧ -1<=r.f3∧r.f3<=99999999∧r.f4.size<=200:=of_decide_eq_true h
def encOk(n:Int):Bool:=decide (-4611686018427387903<=n∧n<=4611686018427387903)
def encL(l:List Int):List Nat:=(l.map Leb.enc).flatten
def u8s(l:List Nat):List UInt8:=l.map UInt8.ofNat
theorem put_walk(n:Int)(h:encOk n=true)(w:World):Calls Tryd.prog 81 #[.int .i64 n] w fun e w'=>e=.returned (.tuple #[.string (str (Leb.enc n)),.int .i64 0])∧Below w.heap.size w w':=
 wire_PutInt.calls n _ _ w (by have:=of_decide_eq_true h;exact WireSpec.put_ok (by omega) (by omega))
theorem enc_one(n:Int)(h:encOk n=true):(Leb.enc n).length<=9:=by
 have h:=of_decide_eq_true h;refine Leb.leb_length 8 _ ?_;unfold Leb.zig
 split<;>omega
theorem enc_len(l:List Int)(h:l.all encOk=true):(encL l).length<=9*l.length:=by
 induction l with
 |nil=>simp[encL]
 |cons a l ih=>
  rw[List.all_cons,Bool.and_eq_true] at h;have h1:=enc_one a h.1;have h2:=ih h.2;unfold encL at h2 ⊢;rw[List.map_cons,List.flatten_cons,List.length_append,List.length_cons];omega
theorem str_size(l:List Nat):(str l).size=l.length:=by simp[str,ByteArray.size]
theorem encL_snoc(l:List Int)(n:Int)(X:List Nat):X++encL (l++[n])=(X++encL l)++Leb.enc n:=by simp[encL]
theorem u8_snoc(X:List Nat)(Y:List Nat):u8s (X++Y)=u8s X++(str Y).data.toList:=by simp[u8s,str]
theorem len_u8(X:List Nat):(u8s X).length=X.length:=by simp[u8s]
theorem int_get{l:List Int}{k:Nat}(h:k<l.length):rd l (k:Int)=l[k]:=by
 unfold rd;rw[Int.toNat_natCast,List.getD_eq_getElem?_getD,List.getElem?_eq_getElem h];rfl
theorem take_one{l:List Int}{k:Nat}(h:k<l.length):l.take (k+1)=l.take k++[rd l (k:Int)]:=by
 rw[List.take_add_one,List.getElem?_eq_getElem h,int_get h];rfl
theorem int_cell{l:List Int}{k:Nat}(h:k<l.length):(l.map (Value.int .i64))[k]?=some (.int .i64 (rd l (k:Int))):=by
 rw[List.getElem?_map,List.getElem?_eq_getElem h,int_get h];rfl
set_option maxHeartbeats 2000000 in
theorem numbers_walk(B b g:Nat)(X:List Nat)(hX:X.length<=1000000)(c:Nat)(l:List Int)(n:Nat)(hn:l.length=n)(hl:n<=1000)(ho:l.all encOk=true)(w:World)(hw:Wr B b (u8s X) w)(hr:Blk w g 3 (l.map (Value.int .i64)))(hB:B<=w.heap.size)(hne:g≠b):
  Calls Tryd.prog 52 #[.pointer (some ⟨b,0,none⟩),.slice (some ⟨g,0,none⟩) n c] w fun e w'=>e=.returned (.tuple #[])∧Wr B b (u8s (X++encL l)) w'∧Below B w w':=by
 have HN:=Lib.hid hn;have HO:=Lib.hid ho;have HW:=Lib.hid hw;have HR:=Lib.hid hr;have HBS:=Lib.hid hB;clear hn ho hw hr hB
 go_enter Tryd.func52,Tryd.ntmps52
 go_wp2
 go_loopw [10] (fun i wr=>∃k:Nat,k<=n∧i=.int .i64 (k:Int)∧Hid (Wr B b (u8s (X++encL (l.take k))) wr)∧Hid (Blk wr g 3 (l.map (Value.int .i64)))∧Hid (Below B w wr)) (fun i wr=>n - (intOf i).toNat)
 case atStart=>exact⟨0,by omega,rfl,Lib.hid (by simpa [encL] using HW.out),HR,Lib.hid (Below.refl _ _)⟩
 case round=>
  clear HW HR;obtain⟨k,hk,rfl,HW,HR,HBW⟩:=hrel
  by_cases hlt:k<n
  ·have hki:(k:Int)<(n:Int):=by omega
   have hkl:k<l.length:=by rw[HN.out];exact hlt
   have hx:=HR.out.cell (int_cell hkl);have hst:=take_one hkl;have hok:encOk (rd l (k:Int))=true:=by
    rw[int_get hkl];exact List.all_eq_true.1 HO.out _ (List.getElem_mem hkl)
   obtain⟨x,hxe⟩:∃x,rd l (k:Int)=x:=⟨_,rfl⟩
   rw[hxe] at hx hst hok;have hl9:=enc_one x hok;have hle:=enc_len (l.take k) (by
    rw[List.all_eq_true];exact fun y hy=>List.all_eq_true.1 HO.out y (List.mem_of_mem_take hy))
   rw[List.length_take] at hle;have hlen:(u8s (X++encL (l.take k))).length+(str (Leb.enc x)).size<=140737488355328:=by rw[str_size,len_u8,List.length_append];omega
   have HST:=Lib.hid hst;have HOK:=Lib.hid hok;have HLEN:=Lib.hid hlen;have HLT:=Lib.hid (And.intro hlt hkl);clear hst hok hlen hl9 hle hxe hkl
   go_wp2_with (first |(go_at_call 81;(with_reducible refine (put_walk x HOK.out _).mono ?_);rintro e w2 ⟨rfl,hb2⟩) |(go_at_call 54;(with_reducible refine (write_walk B b _ _ w2 (HW.out.below hb2) HLEN.out (Nat.le_trans HBS.out (Nat.le_trans HBW.out.size hb2.size))).mono ?_);rintro e w3 ⟨rfl,hb3,hw3,hk3⟩) |fail)
   go_roundw
   case rel=>
    refine⟨k+1,HLT.out.1,by go_num,Lib.hid ?_,Lib.hid ?_,Lib.hid ?_⟩
    ·rw[HST.out,encL_snoc,u8_snoc];exact hb3.wr
    ·exact hk3 _ _ (HR.out.belowS hb2).heap (by simpa using hne) (fun c fz h=>by injection h with _ h2;cases h2)
    ·exact Below.trans HBW.out (Below.trans (hb2.mono (Nat.le_trans HBS.out HBW.out.size)) hw3)
   case measure=>simp[intOf];omega
  ·obtain rfl:k=n:=by omega
   have hW:=HW.out;rw[List.take_of_length_le (by rw[HN.out];exact Nat.le_refl _)] at hW;have HW:=Lib.hid hW;clear hW hlt
   go_wp2
   go_end0
   exact⟨rfl,HW.out,HBW.out⟩
def encR(r:Rec):List Nat:=encL [r.f0,r.f1,r.f2,r.f3]++(Leb.enc (r.f4.size:Int)++nat r.f4)
def txtR(r:Rec):ByteArray:=str (encR r)
def encF(r:Rec):ByteArray × Int:=if recB r then (txtR r,0) else (⟨#[]⟩,350)
theorem fld_ok{r:Rec}(h:recB r=true):[r.f0,r.f1,r.f2,r.f3].all encOk=true:=by
 have:=recB_true h;simp only[List.all_cons,List.all_nil,Bool.and_true,Bool.and_eq_true,encOk,decide_eq_true_eq];omega
theorem puts_walk(s:ByteArray)(h:s.size<=65536)(w:World):Calls Tryd.prog 53 #[.string s] w fun e w'=>e=.returned (.tuple #[.string (str (Leb.enc (s.size:Int))++s),.int .i64 0])∧Below w.heap.size w w':=
 wire_PutString.calls s _ _ w (WireSpec.putS_ok s h)
theorem ba_data(a b:ByteArray):(a++b).data.toList=a.data.toList++b.data.toList:=by rw[ByteArray.data_append,Array.toList_append]
theorem u8_nat(s:ByteArray):u8s (nat s)=s.data.toList:=by
 unfold u8s nat;rw[List.map_map];have:(UInt8.ofNat ∘ UInt8.toNat)=id:=by funext x;simp
 rw[this,List.map_id]
theorem u8_app(X Y:List Nat):u8s (X++Y)=u8s X++u8s Y:=by simp[u8s]
set_option maxHeartbeats 2000000 in
theorem encode_walk(r:Rec)(w:World):Calls Tryd.prog 20 #[rval r] w fun e w'=>e=.returned (.tuple #[.string (encF r).1,.int .i64 (encF r).2])∧Below w.heap.size w w':=by
 cases hv:recB r with
 |false=>
  have hE:encF r=(⟨#[]⟩,350):=by unfold encF;rw[hv];rfl
  rw[hE];have HV:=Lib.hid hv;clear hv hE
  go_enter Tryd.func20,Tryd.ntmps20
  go_wp2_with (first |(go_at_call 51;(with_reducible refine (isRecord_walk r _).mono ?_);rintro e w2 ⟨rfl,hb2⟩;rw[HV.out]) |fail)
  go_ret2
  exact⟨rfl,Below.trans ((Below.refl _ _).alloc (Nat.le_refl _) _) (hb2.mono (by simp))⟩
 |true=>
  have hE:encF r=(txtR r,0):=by unfold encF;rw[hv];rfl
  rw[hE];have HV:=Lib.hid hv;have hsz:=recB_true hv;have h200:r.f4.size<=200:=by omega
  clear hv hE hsz
  go_enter Tryd.func20,Tryd.ntmps20
  go_upto_region 4 with (first |(go_at_call 51;(with_reducible refine (isRecord_walk r _).mono ?_);rintro e w2 ⟨rfl,hb2⟩;rw[HV.out]) |fail)
  have hb0:Below w.heap.size w (w.alloc (.cells #[.int .i64 r.f0,.int .i64 r.f1,.int .i64 r.f2,.int .i64 r.f3,.string r.f4] 43)):=(Below.refl _ _).alloc (Nat.le_refl _) _;have hR0:Blk w2 w.heap.size 43 (rcells r):=(Blk.newA w _ _ (rcells r) rfl).belowS hb2;have hbw:Below w.heap.size w w2:=Below.trans hb0 (hb2.mono hb0.size);have hlt:w.heap.size<w2.heap.size:=hR0.lt;have hwr:Wr (w.heap.size+1) w2.heap.size (u8s ([]++encL [])) (w2.alloc (.cells #[.pointer none,.slice none 0 0] 87)):=Wr.new w2 (w.heap.size+1) w2.heap.size hlt rfl;have hR1:=hR0.alloc (.cells #[.pointer none,.slice none 0 0] 87);have hb1:Below w.heap.size w (w2.alloc (.cells #[.pointer none,.slice none 0 0] 87)):=hbw.alloc hbw.size _;have hs1:(w2.alloc (.cells #[.pointer none,.slice none 0 0] 87)).heap.size=w2.heap.size+1:=by simp
  generalize w2.alloc (.cells #[.pointer none,.slice none 0 0] 87)=w3 at*
  obtain⟨b,hb⟩:∃b,w2.heap.size=b:=⟨_,rfl⟩
  rw[hb] at hwr hlt hs1 ⊢;clear hR0 hbw hb0 hb2 hb w2;have x0:=hR1.cell (j:=0) rfl;have x1:=hR1.cell (j:=1) rfl;have x2:=hR1.cell (j:=2) rfl;have x3:=hR1.cell (j:=3) rfl;have hA:=hR1.alloc (.cells #[.int .i64 r.f0,.int .i64 r.f1,.int .i64 r.f2,.int .i64 r.f3] 3);have hN:Blk (w3.alloc (.cells #[.int .i64 r.f0,.int .i64 r.f1,.int .i64 r.f2,.int .i64 r.f3] 3)) w3.heap.size 3 ([r.f0,r.f1,r.f2,r.f3].map (Value.int .i64)):=Blk.newA w3 _ _ _ rfl;have hwr2:=hwr.below ((Below.refl _ _).alloc (Nat.le_refl _) (.cells #[.int .i64 r.f0,.int .i64 r.f1,.int .i64 r.f2,.int .i64 r.f3] 3));have hb4:=hb1.alloc hb1.size (.cells #[.int .i64 r.f0,.int .i64 r.f1,.int .i64 r.f2,.int .i64 r.f3] 3);rw[hs1] at hN;have HNUM:=Lib.hid (numbers_walk (w.heap.size+1) b (b+1) [] (by simp) 4 [r.f0,r.f1,r.f2,r.f3] 4 rfl (by decide) (fld_ok HV.out) _ hwr2 hN (by simp;omega) (by omega));have HA:=Lib.hid hA;have HB4:=Lib.hid hb4;clear hwr2 hN hwr hA hb4 hb1
  go_upto_region 5 with (first |(go_at_call 52;(with_reducible refine HNUM.out.mono ?_);rintro e w5 ⟨rfl,hw5,hb5⟩) |fail)
  have HA5:=Lib.hid (HA.out.below hb5 (by omega));have HB5:=Lib.hid (Below.trans HB4.out (hb5.mono (by omega)));have x4:=HA5.out.cell (j:=4) rfl;have HW5:=Lib.hid hw5;have hle:=enc_len [r.f0,r.f1,r.f2,r.f3] (fld_ok HV.out);have h3:=WireSpec.enc_len r.f4.size (by omega);have hsz:∀B:World,B.heap.size=B.heap.size:=fun _=>rfl
  have HLEN:Hid ((u8s ([]++encL [r.f0,r.f1,r.f2,r.f3])).length+(str (Leb.enc (r.f4.size:Int))++r.f4).size<=140737488355328):=Lib.hid (by
   rw[len_u8,List.nil_append,ByteArray.size_append,str_size];simp only[List.length_cons,List.length_nil] at hle;omega)
  have HSP:Hid (w.heap.size+1<=w5.heap.size):=Lib.hid (by have:=HA5.out.lt;omega);have HPS:=Lib.hid (fun W=>puts_walk r.f4 (by omega) W);clear hsz hle h3 hb5 hw5 x0 x1 x2 x3
  go_wp2_with (first |(go_at_call 53;(with_reducible refine (HPS.out _).mono ?_);rintro e w6 ⟨rfl,hb6⟩) |(go_at_call 54;(with_reducible refine (write_walk (w.heap.size+1) b _ _ w6 (HW5.out.below hb6) HLEN.out (Nat.le_trans HSP.out hb6.size)).mono ?_);rintro e w7 ⟨rfl,hw7,hb7,hk7⟩) |fail)
  have hne:u8s ([]++encL [r.f0,r.f1,r.f2,r.f3])++(str (Leb.enc (r.f4.size:Int))++r.f4).data.toList≠[]:=by
   intro h;have h:=congrArg List.length h;rw[List.length_append,len_u8,List.nil_append,List.length_nil] at h;have:0<(encL [r.f0,r.f1,r.f2,r.f3]).length:=by
    unfold encL;rw[List.map_cons,List.flatten_cons,List.length_append];have:=List.length_pos_iff.2 (Leb.leb_ne (Leb.zig r.f0));unfold Leb.enc;omega
   omega
  refine (string_walk (w.heap.size+1) b _ w7 hw7.wr hne).mono ?_
  rintro e w8 ⟨rfl,hb8⟩
  go_wp2
  go_ret2
  refine⟨?_,?_⟩
  ·have ht:(⟨(u8s ([]++encL [r.f0,r.f1,r.f2,r.f3])++(str (Leb.enc (r.f4.size:Int))++r.f4).data.toList).toArray⟩:ByteArray)=txtR r:=by
    unfold txtR encR;rw[List.nil_append,ba_data]
    show (⟨(_++(u8s (Leb.enc (r.f4.size:Int))++r.f4.data.toList)).toArray⟩:ByteArray)=⟨(u8s _).toArray⟩
    rw[u8_app,u8_app,u8_nat]
   rw[<-ht];simp only[List.nil_append,ba_data];rfl
  ·exact Below.trans HB5.out (Below.trans (hb6.mono (by have:=HB5.out.size;omega)) (Below.trans (hb7.mono (by omega)) (hb8.mono (by omega))))
end Go.Proofs.YtfdlmpicmkpabaaDoor.Ext
end
section
namespace Go.Proofs.YtfdlmpicmkpabaaDoor.Ext
set_option maxRecDepth 100000
open Go.RowKit Go.Shelf Go.Proofs.YtfdlmpicmkpabaaDoorW.PrintWords Go.Proofs.YtfdlmpicmkpabaaDoorW.PrintLast Go.Proofs.YtfdlmpicmkpabaaDoorW.PrintMore Go.Proofs.YtfdlmpicmkpabaaDoor.PB
def okFrom:Int->List Rec->Bool
 |_,[]=>true
 |at_,r::rs=>recB r&&decide (at_<=r.f0)&&okFrom r.f0 rs
def validB(st:Int)(rs:List Rec):Bool:=okFrom 0 rs&&decide (0<=st∧st<=99)&&decide (rs.length<=60)
theorem rec_get{rs:List Rec}{i:Nat}(h:i<rs.length):rd_T43 rs (i:Int)=rs[i]:=by
 unfold rd_T43;rw[Int.toNat_natCast,List.getD_eq_getElem?_getD,List.getElem?_eq_getElem h];rfl
theorem rec_drop{rs:List Rec}{i:Nat}(h:i<rs.length):rs.drop i=rd_T43 rs (i:Int)::rs.drop (i+1):=by
 rw[rec_get h];exact List.drop_eq_getElem_cons h
theorem w64'{x:Int}(h1: -9223372036854775808<=x)(h2:x<9223372036854775808):wrap64 x=x:=by unfold wrap64;omega
theorem valid_l0(st:Int)(rs:List Rec)(hn:rs.length<=1000000000000):∀(d i k:Nat) (at_:Int),rs.length - i=d->i<=rs.length->d<k->
  logbook_Valid.l0 k at_ rs (rs.length:Int) (i:Int) st rs=some (okFrom at_ (rs.drop i)&&decide (0<=st∧st<=99)&&decide (rs.length<=60)):=by
 intro d
 induction d with
 |zero=>
  intro i k at_ hd hi hk;obtain⟨k,rfl⟩:∃q,k=q+1:=⟨k - 1,by omega⟩
  rw[logbook_Valid.l0,if_neg (by omega),isIn_is,Option.bind_some,List.drop_of_length_le (by omega)]
  by_cases h:0<=st∧st<=99
  ·rw[if_pos (decide_eq_true h),decide_eq_true h];congr 1
   show _=(true&&true&&_)
   rw[Bool.true_and,Bool.true_and];exact decide_eq_decide.2 (by omega)
  ·rw[if_neg (by simpa using h),decide_eq_false h];rfl
 |succ d ih=>
  intro i k at_ hd hi hk;obtain⟨k,rfl⟩:∃q,k=q+1:=⟨k - 1,by omega⟩
  have hlt:i<rs.length:=by omega
  rw[logbook_Valid.l0,if_pos (by omega),if_pos (by omega),if_pos (by omega),isRecord_is,Option.bind_some,rec_drop hlt]
  show _=some ((recB _&&decide (at_<=_)&&okFrom _ _)&&_&&_)
  cases hr:recB (rd_T43 rs (i:Int)) with
  |true=>
   rw[if_pos rfl]
   by_cases hat:(rd_T43 rs (i:Int)).f0<at_
   ·rw[if_pos hat,decide_eq_false (by omega)];rfl
   ·rw[if_neg hat,decide_eq_true (by omega),w64' (by omega) (by omega),show (i:Int)+1=((i+1:Nat):Int) by omega,ih (i+1) k _ (by omega) (by omega) (by omega)];rfl
  |false=>
   rw[if_neg (by decide)];rfl
theorem valid_is(k:Nat)(st:Int)(rs:List Rec)(hn:rs.length<=1000000000000)(hk:rs.length<k):logbook_Valid.f k st rs=some (validB st rs):=
 valid_l0 st rs hn rs.length 0 k 0 (by omega) (by omega) hk
theorem valid_walk(st:Int)(A:Option Addr)(n c:Nat)(rs:List Rec)(hl:rs.length=n)(w:World)(hC:Kd.C kRec w A n rs)(hc:n<=c)(hn:n<=1000000000000):
  Calls Tryd.prog 26 #[.agg #[.int .i64 st,.slice A n c]] w fun e w'=>e=.returned (.bool (validB st rs))∧Below w.heap.size w w':=by
 subst hl;exact logbook_Valid.calls (rs.length+1) st A c rs _ w hC hc (valid_is _ st rs hn (by omega))
theorem okFrom_all:∀{at_:Int} {rs:List Rec},okFrom at_ rs=true->∀r ∈ rs,recB r=true∧at_<=r.f0
 |_,[],_,_,h=>by simp at h
 |at_,r::rs,h,x,hx=>by
  unfold okFrom at h;rw[Bool.and_eq_true,Bool.and_eq_true] at h;have h1:=of_decide_eq_true h.1.2;rcases List.mem_cons.1 hx with rfl |hx
  ·exact⟨h.1.1,h1⟩
  ·have:=okFrom_all h.2 x hx;exact⟨this.1,by omega⟩
theorem valid_all{st:Int}{rs:List Rec}(h:validB st rs=true):(∀r ∈ rs,recB r=true)∧0<=st∧st<=99∧rs.length<=60:=by
 unfold validB at h;rw[Bool.and_eq_true,Bool.and_eq_true] at h;have h1:=of_decide_eq_true h.1.2;exact⟨fun r hr=>(okFrom_all h.1.1 r hr).1,h1.1,h1.2,of_decide_eq_true h.2⟩
end Go.Proofs.YtfdlmpicmkpabaaDoor.Ext
end
