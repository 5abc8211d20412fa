import Derived.Test.YtfdlmpicmkpabaaDoorMLogbookDecodesah
import Derived.Test.YtfdlmpicmkpabaaDoorMLogbookDecodesab
import Derived.Test.YtfdlmpicmkpabaaDoorProg
import Derived.Below
import Derived.Deep.Draws
import Derived.Deep.AppendLies
import Derived.Maps.AppendAt
import Derived.OwnWalk
import Derived.Laws.BytesArg
import Derived.Laws.MakeOwn
import Derived.Laws.OwnMore
import Derived.Deep.OwnRows
import Derived.Tactics
import Derived.Lib.ConvBytes
import Derived.Laws.Slices
import Derived.WalkKit
import Derived.KernelRfl
import Derived.RowKit3
import Derived.Deep.LoopGhost
import Derived.Deep.QuietTactic
import Derived.BigQuiet
import Derived.WideLaws
import Derived.Deep.DeepCutAuto
import Derived.Deep.CutBlock
import Derived.Deep.RegionHeld3
import Derived.Laws.Rows
import Derived.Lib.AppendStr
import Derived.ArgAppend
import Derived.Laws.IdiomCopy
import Derived.OrdersHeld
import Derived.Laws.BitsLemmas
import Derived.RowKit
import Derived.Test.YtfdlmpicmkpabaaDoorMLogbookDecodesac
import Derived.Test.YtfdlmpicmkpabaaDoorMLogbookDecodesaa
/-
  Texts of this claim, one behind the other: what they prove stands above each.
-/
set_option linter.unusedVariables false
set_option linter.unusedSimpArgs false
section
namespace Go.Proofs.YtfdlmpicmkpabaaDoorW.PrintLast
set_option maxRecDepth 100000
open Go.Proofs.YtfdlmpicmkpabaaDoorW.PrintWords
variable {P:Program} {ops:Array Oper} {Q:Exit->Act->World->Prop} {S:World->Prop} {ds:List Nat}
theorem op_round{l n:Nat}(hno:¬LetsOut Q){o:Oper}(hd:∀c,o.op≠ .defer c){a:Act}{w:World}{K K':Act->World->Prop}(hK:∀a w,K a w->K' a w)(h:o.wp P a w K Q∨(o.asks P a w∧LetsOut Q)):o.wpIn (Fence.wide.inRound l) n P a w K' Q:=by
 have h:=h.resolve_right fun h=>hno h.2
 unfold Oper.wp at h;refine⟨fun _ _=>trivial,?_⟩;rw[Oper.semAt_eq _ _ _ hd];generalize (execOp a.eval o).run P w=r at h
 cases r with
 |ok x w'=>
  cases x with
  |value v=>exact hK _ _ h
  |skip=>exact hK _ _ h
  |defer d=>exact hK _ _ h
  |enter f args=>
   refine⟨fun h=>by simp[Fence.wide] at h,CallsIn.inRound l (callsIn_wide.2 (Calls.mono h ?_))⟩;intro e w'' he
   cases e with
   |returned v=>exact hK _ _ he
   |panicked c=>exact he
   |outgrown=>exact he
  |row row args=>
   refine⟨fun h=>by simp[Fence.wide] at h,fun c cs _=>?_⟩;obtain⟨v,w'',hv,hs⟩:=h c cs;exact⟨v,w'',hK _ _ hv,stepsIn_wide.2 hs⟩
  |round l f tmps assign body=>exact h.elim
  |_=>exact h.elim
 |halt hh w'=>cases hh<;>first |exact h |exact h.elim
theorem any_round{l n:Nat}{md:Region.Mode}(hno:¬LetsOut Q)(hd:∀(i:Nat) (o:Oper),ops[i]?=some o->∀c,o.op≠Op.defer c):∀(fuel:Nat) (listed:Array Bool) (a:Act) (w:World),wpAny P md ops Q fuel listed a w->wpAnyIn (Fence.wide.inRound l) n P md ops Q fuel listed a w
 |0,_,_,_,h=>h
 |fuel+1,listed,a,w,h=>⟨h.1,fun i hi=>by
   have h2:=h.2 i hi;unfold wpOp at h2;unfold wpOpIn
   cases ho:ops[i]? with
   |none=>rw[ho] at h2;exact any_round hno hd fuel _ _ _ h2
   |some o=>
    rw[ho] at h2;simp only at h2 ⊢
    split at h2
    ·rename_i hw;rw[if_pos hw];exact op_round hno (hd i o ho) (fun a w=>any_round hno hd fuel _ a w) h2
    ·rename_i hw;rw[if_neg hw];exact⟨fun _ _=>trivial,any_round hno hd fuel _ _ _ h2⟩⟩
def notDefer:Op->Bool
 | .defer _=>false
 |_=>true
theorem startR_{id n r m:Nat}{a:Act}{w:World}(l:Array Bool)(hm:P.follows .mixedOrders=true)(hno:¬LetsOut Q)(hd:ops.toList.all (fun o=>notDefer o.op)=true)(hn:ops.size=n)(hl:Array.replicate n false=l)(hS:S w.drew)
  (h:S w.drew->wpAnyLast P .any ops Q S ds n l a w.drew):(Code.region id ops true).wpIn (Fence.wide.inRound r) m P Q a w:=by
 subst hn;subst hl;refine wpIn_region_any hm (any_round hno (fun i o hi c hc=>?_) _ _ _ _ (wpAny_of_last _ _ _ _ (h hS)));have:=List.all_eq_true.1 hd o (Array.mem_toList_iff.2 (Array.mem_of_getElem? hi));rw[hc] at this
 cases this
end Go.Proofs.YtfdlmpicmkpabaaDoorW.PrintLast
end
section
namespace Go.Proofs.YtfdlmpicmkpabaaDoor.PR
open Go.Proofs.YtfdlmpicmkpabaaDoor.Ext
attribute [local go_sem] u32_signed u32_max
open Go.RowKit Go.Proofs.YtfdlmpicmkpabaaDoorW.PrintWords Go.Proofs.YtfdlmpicmkpabaaDoorW.PrintLast Go.Proofs.YtfdlmpicmkpabaaDoorW.PrintMore
attribute [local go_sem] max2_int min2_int max_two min_two max_three min_three max_four min_four -- for this text's walks alone
def errW:Option Int->Value
 |none=>.nilIface
 |some c=>.iface 0 (.int .i64 c)
theorem errW_none:errW none=.nilIface:=rfl
theorem errW_some(c:Int):errW (some c)=.iface 0 (.int .i64 c):=rfl
end Go.Proofs.YtfdlmpicmkpabaaDoor.PR
end
section
namespace Go.Proofs.YtfdlmpicmkpabaaDoor.PR
open Go.Proofs.YtfdlmpicmkpabaaDoor.Ext
attribute [local go_sem] u32_signed u32_max
open Go.RowKit Go.Proofs.YtfdlmpicmkpabaaDoorW.PrintWords Go.Proofs.YtfdlmpicmkpabaaDoorW.PrintLast Go.Proofs.YtfdlmpicmkpabaaDoorW.PrintMore
attribute [local go_sem] max2_int min2_int max_two min_two max_three min_three max_four min_four -- for this text's walks alone
def bits_RotateLeft32.f(a0:Int)(a1:Int):Option (Int):=if 0<=(Go.bits .and .u64 (IntKind.u64.wrap (a1)) 31) then (if 0<=(IntKind.u64.wrap (32 - (Go.bits .and .u64 (IntKind.u64.wrap (a1)) 31))) then (some (Go.bits .or .u32 (shl .u32 a0 (Go.bits .and .u64 (IntKind.u64.wrap (a1)) 31)) (shr .u32 a0 (IntKind.u64.wrap (32 - (Go.bits .and .u64 (IntKind.u64.wrap (a1)) 31)))))) else (none)) else (none)
set_option maxHeartbeats 8000000 in
set_option maxRecDepth 100000 in
theorem bits_RotateLeft32.calls(a0:Int)(a1:Int)(r:Int)(w:World)(h:bits_RotateLeft32.f a0 a1=some r):
  Calls Tryd.prog 114 #[.int .u32 a0,.int .i64 a1] w fun e w'=>e=.returned (.int .u32 r)∧Drawn0 w w':=by
 have H:(if 0<=(Go.bits .and .u64 (IntKind.u64.wrap (a1)) 31) then (if 0<=(IntKind.u64.wrap (32 - (Go.bits .and .u64 (IntKind.u64.wrap (a1)) 31))) then (some (Go.bits .or .u32 (shl .u32 a0 (Go.bits .and .u64 (IntKind.u64.wrap (a1)) 31)) (shr .u32 a0 (IntKind.u64.wrap (32 - (Go.bits .and .u64 (IntKind.u64.wrap (a1)) 31)))))) else (none)) else (none))=some r:=h;clear h;obtain⟨ji3,hji3⟩:∃j_:Int,(Go.bits .and .u64 (IntKind.u64.wrap (a1)) 31)=j_:=⟨_,rfl⟩
 replace H:(if 0<=(ji3) then (if 0<=(IntKind.u64.wrap (32 - (ji3))) then (some (Go.bits .or .u32 (shl .u32 a0 (ji3)) (shr .u32 a0 (IntKind.u64.wrap (32 - (ji3)))))) else (none)) else (none))=some r:=by first |(rw[hji3] at H;exact H) |(simp only[hji3] at H ⊢;exact H)
 by_cases c4:0<=(ji3)
 ·rw[if_pos c4] at H;have c4b0:=eq_true c4;have c4b1:decide (0<=(ji3))=true:=decide_eq_true c4;clear c4;obtain⟨ji5,hji5⟩:∃j_:Int,(shl .u32 a0 (ji3))=j_:=⟨_,rfl⟩
  replace H:(if 0<=(IntKind.u64.wrap (32 - (ji3))) then (some (Go.bits .or .u32 (ji5) (shr .u32 a0 (IntKind.u64.wrap (32 - (ji3)))))) else (none))=some r:=by first |(rw[hji5] at H;exact H) |(simp only[hji5] at H ⊢;exact H)
  have hji5_:(IntKind.u32.wrap (a0*2 ^ min (ji3).toNat 32))=ji5:=hji5;have hji5z:(ji3)<=32->(IntKind.u32.wrap (a0*2 ^ (ji3).toNat))=ji5:=shl_small hji5;obtain⟨ji6,hji6⟩:∃j_:Int,(IntKind.u64.wrap (32 - (ji3)))=j_:=⟨_,rfl⟩
  replace H:(if 0<=(ji6) then (some (Go.bits .or .u32 (ji5) (shr .u32 a0 (ji6)))) else (none))=some r:=by first |(rw[hji6] at H;exact H) |(simp only[hji6] at H ⊢;exact H)
  by_cases c7:0<=(ji6)
  ·rw[if_pos c7] at H;have c7b0:=eq_true c7;have c7b1:decide (0<=(ji6))=true:=decide_eq_true c7;clear c7;obtain⟨ji8,hji8⟩:∃j_:Int,(shr .u32 a0 (ji6))=j_:=⟨_,rfl⟩
   replace H:(some (Go.bits .or .u32 (ji5) (ji8)))=some r:=by first |(rw[hji8] at H;exact H) |(simp only[hji8] at H ⊢;exact H)
   have hji8_:(a0 / 2 ^ min (ji6).toNat 32)=ji8:=hji8;have hji8z:(ji6)<=32->(a0 / 2 ^ (ji6).toNat)=ji8:=shr_small hji8;obtain rfl:=Option.some.inj H
   go_enter Tryd.func114,Tryd.ntmps114
   go_wp2
   go_ret
   exact⟨by first |rfl |(simp;done) |(simp only[<-hji3, <-hji5, <-hji6, <-hji8]<;>(first |rfl |simp)) |(simp[*];done),by repeat (first |exact Drawn0.refl _ |apply Drawn0.step)⟩
  ·rw[if_neg c7] at H;exact absurd H (by simp)
 ·rw[if_neg c4] at H;exact absurd H (by simp)
end Go.Proofs.YtfdlmpicmkpabaaDoor.PR
end
section
namespace Go.Proofs.YtfdlmpicmkpabaaDoor.PR
open Go.Proofs.YtfdlmpicmkpabaaDoor.Ext
attribute [local go_sem] u32_signed u32_max
open Go.RowKit Go.Proofs.YtfdlmpicmkpabaaDoorW.PrintWords Go.Proofs.YtfdlmpicmkpabaaDoorW.PrintLast Go.Proofs.YtfdlmpicmkpabaaDoorW.PrintMore
attribute [local go_sem] max2_int min2_int max_two min_two max_three min_three max_four min_four -- for this text's walks alone
def digest_mixed.l0:Nat->Int->Int->List Int->Int->Int->Option (Int)
 |0,_,_,_,_,_=>none
 |k+1,x0,x5,x8,x9,x10=>if x10<x9 then (if 0<=x10 then (if x10<(x8.length:Int) then ((bits_RotateLeft32.f x0 (wrap64 (-(rd x8 x10)))).bind fun t102=>(digest_mixed.l0 k x0 (Go.bits .xor .u32 x5 t102) x8 x9 (wrap64 (x10+1)))) else (none)) else (none)) else (some x5)
def digest_mixed.f(k:Nat)(a0:Int)(l1:List Int):Option (Int):=digest_mixed.l0 k a0 0 l1 (l1.length:Int) 0
set_option maxHeartbeats 8000000 in
set_option maxRecDepth 100000 in
theorem digest_mixed.calls(k:Nat)(a0:Int)(A1:Option Addr)(c1:Nat)(l1:List Int)(r:Int)(w:World)(hr1:Kd.C (Kd.int .i64) w A1 l1.length l1)(hc1:l1.length<=c1)(h:digest_mixed.f k a0 l1=some r):
  Calls Tryd.prog 108 #[.int .u32 a0,.slice A1 l1.length c1] w fun e w'=>e=.returned (.int .u32 r)∧Drawn0 w w':=by
 have HR1:=Aside0.mk hr1;have HC1:=Aside0.mk hc1;clear hr1 hc1;have H:(digest_mixed.l0 k a0 0 l1 (l1.length:Int) 0)=some r:=h;clear h;have H':=Aside0.mk H;clear H
 go_enter Tryd.func108,Tryd.ntmps108
 go_wp2
 go_loopg [5,10] k (fun kq v5 v10 w'=>∃(x5_1:Int) (x10_1:Int),v5=.int .u32 x5_1∧v10=.int .i64 x10_1∧Aside0 (digest_mixed.l0 kq a0 x5_1 l1 (l1.length:Int) x10_1=some r)∧Aside0 (kq<=k)∧Drawn0 w w')
 case atStart=>exact⟨(0),(0),(by first |rfl |(simp;done) |(simp[*];done)),(by first |rfl |(simp;done) |(simp[*];done)),H',⟨Nat.le_refl _⟩,by repeat (first |exact Drawn0.refl _ |apply Drawn0.step)⟩
 case round=>
  clear H'
  (try clear c1);(try clear p2)
  obtain⟨x5_1,x10_1,rfl,rfl,HA,HK1,⟨m1,rfl⟩⟩:=hrel
  cases gk with
  |zero=>exact absurd HA.out (by simp[digest_mixed.l0])
  |succ k1=>
   have H:=HA.out;clear HA;simp only[digest_mixed.l0] at H
   by_cases c3:x10_1<(l1.length:Int)
   ·rw[if_pos c3] at H;have c3b0:decide (x10_1<(l1.length:Int))=true:=decide_eq_true c3;clear c3
    by_cases c4:0<=x10_1
    ·rw[if_pos c4] at H;have c4b0:decide (0<=x10_1)=true:=decide_eq_true c4;clear c4
     by_cases c5:x10_1<(l1.length:Int)
     ·rw[if_pos c5] at H;have c5b0:decide (x10_1<(l1.length:Int))=true:=decide_eq_true c5;clear c5;replace H:=Option.bind_eq_some_iff.mp H;obtain⟨t102,A60,H⟩:=H;replace H:(digest_mixed.l0 k1 a0 (Go.bits .xor .u32 x5_1 t102) l1 (l1.length:Int) (wrap64 (x10_1+1)))=some r:=H;have A6:=Aside0.mk A60;clear A60;have H':=Aside0.mk H;clear H;have p101:0<=(x10_1:Int):=of_decide_eq_true (by first |(with_reducible assumption) |assumption);have q101:x10_1<(l1.length:Int):=of_decide_eq_true (by first |(with_reducible assumption) |assumption);obtain⟨ad101,e101,hx101_0⟩:=Kd.at_int HR1.out x10_1 p101 q101
      cases e101
      replace p101:=eq_true p101;replace q101:=eq_true q101
      go_wp2_with (first |((with_reducible refine gate_callee (f:=114) rfl ?_);refine goesL_ (some 18) rfl rfl Tryd.func114 (by kernel_rfl) rfl #[.int .u32 a0,.int .i64 (wrap64 (-(rd l1 x10_1)))] rfl (by (try simp only[List.map_toArray,List.map_cons,List.map_nil]);first |done |rfl |(simp only[List.length_drop,List.length_take];rfl)) ?_;(with_reducible refine (bits_RotateLeft32.calls a0 (wrap64 (-(rd l1 x10_1))) t102 _ A6.out).mono ?_);rintro e w' ⟨rfl,⟨nd,rfl⟩⟩;refine⟨_,rfl,?_⟩))
      go_roundg k1
      case measure=>have:=HK1.out;omega
      case rel=>exact⟨(Go.bits .xor .u32 x5_1 t102),(wrap64 (x10_1+1)),(by first |rfl |(simp;done) |(simp[*];done)),(by first |rfl |(simp;done) |(simp[*];done)),H',⟨by have:=HK1.out;omega⟩,by repeat (first |exact Drawn0.refl _ |apply Drawn0.step)⟩
     ·rw[if_neg c5] at H;exact absurd H (by simp)
    ·rw[if_neg c4] at H;exact absurd H (by simp)
   ·rw[if_neg c3] at H;have c3b0:decide (x10_1<(l1.length:Int))=false:=decide_eq_false c3;clear c3;obtain rfl:=Option.some.inj H
    go_wp2
    go_ret
    exact⟨by first |rfl |(simp;done) |(simp[*];done),by repeat (first |exact Drawn0.refl _ |apply Drawn0.step)⟩
end Go.Proofs.YtfdlmpicmkpabaaDoor.PR
end
