import Derived.Test.YtfdlmpicmkpabaaDoorMLogbookDecodesay
/-
  Texts of this claim, one behind the other: what they prove stands above each.
-/
set_option linter.unusedVariables false
set_option linter.unusedSimpArgs false
section
namespace Go.Proofs.YtfdlmpicmkpabaaDoor.Ext
set_option maxRecDepth 100000
open Go.RowKit
def lst(s:Sha.St):List Nat:=[s.a,s.b,s.c,s.d,s.e,s.f,s.g,s.h]
def Bd(s:Sha.St):Prop:=s.a<4294967296∧s.b<4294967296∧s.c<4294967296∧s.d<4294967296∧s.e<4294967296∧s.f<4294967296∧s.g<4294967296∧s.h<4294967296
def upto(k:Nat)(W:List Nat)(s:Sha.St):Sha.St:=Sha.rounds (Sha.kk.take k) (W.take k) s
theorem rounds_snoc(k x:Nat):∀(ks ws:List Nat) (s:Sha.St),ks.length=ws.length->Sha.rounds (ks++[k]) (ws++[x]) s=Sha.rnd (Sha.rounds ks ws s) k x:=by
 intro ks
 induction ks with
 |nil=>intro ws s h;cases ws with
  |nil=>rfl
  |cons w ws=>simp at h
 |cons a ks ih=>intro ws s h;cases ws with
  |nil=>simp at h
  |cons w ws=>simp only[List.cons_append,Sha.rounds];exact ih ws _ (by simpa using h)
theorem take_snoc'{l:List Nat}{k:Nat}(h:k<l.length):l.take (k+1)=l.take k++[l.getD k 0]:=by
 rw[List.take_succ_eq_append_getElem h];simp[List.getD_eq_getElem?_getD,h]
theorem kk_len:Sha.kk.length=64:=rfl
theorem upto_succ(k:Nat)(W:List Nat)(s:Sha.St)(hk:k<64)(hW:W.length=64):upto (k+1) W s=Sha.rnd (upto k W s) (Sha.kk.getD k 0) (W.getD k 0):=by
 unfold upto;rw[take_snoc' (by rw[kk_len];exact hk),take_snoc' (by omega),rounds_snoc _ _ _ _ _ (by simp[kk_len];omega)]
theorem upto_all(W:List Nat)(s:Sha.St)(hW:W.length=64):upto 64 W s=Sha.rounds Sha.kk W s:=by
 unfold upto;rw[List.take_of_length_le (by rw[kk_len];exact Nat.le_refl _),List.take_of_length_le (by omega)]
theorem rnd_bd{s:Sha.St}(h:Bd s)(k x:Nat):Bd (Sha.rnd s k x):=by
 obtain⟨h1,h2,h3,h4,h5,h6,h7,h8⟩:=h;exact⟨Nat.mod_lt _ (by decide),h1,h2,h3,Nat.mod_lt _ (by decide),h5,h6,h7⟩
theorem upto_bd(W:List Nat)(s:Sha.St)(h:Bd s)(hW:W.length=64):∀k,k<=64->Bd (upto k W s):=by
 intro k
 induction k with
 |zero=>intro _;exact h
 |succ k ih=>intro hk;rw[upto_succ k W s (by omega) hW];exact rnd_bd (ih (by omega)) _ _
theorem and_lt{a b:Nat}(ha:a<4294967296):a &&& b<4294967296:=Nat.lt_of_le_of_lt Nat.and_le_left ha
theorem not_is(x:Nat)(hx:x<4294967296):Go.bits .xor .u32 4294967295 (x:Int)=((4294967295 - x:Nat):Int):=by
 have h:=u32_xor_nat 4294967295 x (by decide) hx;have e:(4294967295 ^^^ x:Nat)=4294967295 - x:=by
  apply Nat.eq_of_testBit_eq
  intro i;rw[Nat.testBit_xor,show (4294967295:Nat)=2 ^ 32 - 1 from rfl,Nat.testBit_two_pow_sub_one,show 2 ^ 32 - 1 - x=2 ^ 32 - (x+1) by omega,Nat.testBit_two_pow_sub_succ hx]
  by_cases hi:i<32
  ·simp[hi]
  ·have:x.testBit i=false:=Nat.testBit_lt_two_pow (Nat.lt_of_lt_of_le (show x<2 ^ 32 from hx) (Nat.pow_le_pow_right (by decide) (by omega)));simp[hi,this]
 rw[<-e];exact h
def tOf(s:Sha.St)(k x:Nat):Nat:=(s.h+((Sha.rot s.e 6 ^^^ Sha.rot s.e 11) ^^^ Sha.rot s.e 25)+((s.e &&& s.f) ^^^ ((Sha.m32 - 1 - s.e) &&& s.g))+k+x)%Sha.m32
def uOf(s:Sha.St):Nat:=(((Sha.rot s.a 2 ^^^ Sha.rot s.a 13) ^^^ Sha.rot s.a 22)+(((s.a &&& s.b) ^^^ (s.a &&& s.c)) ^^^ (s.b &&& s.c)))%Sha.m32
theorem rnd_is(s:Sha.St)(k x:Nat):lst (Sha.rnd s k x)=[(tOf s k x+uOf s)%4294967296,s.a,s.b,s.c,(s.d+tOf s k x)%4294967296,s.e,s.f,s.g]:=rfl
theorem t_is(s:Sha.St)(k x:Nat)(h:Bd s):IntKind.u32.wrap (IntKind.u32.wrap (IntKind.u32.wrap (IntKind.u32.wrap ((s.h:Int)+((ShaSpec.mix s.e [6,11,25]:Nat):Int))+Go.bits .xor .u32 (Go.bits .and .u32 (s.e:Int) (s.f:Int)) (Go.bits .and .u32 (Go.bits .xor .u32 4294967295 (s.e:Int)) (s.g:Int)))+(k:Int))+(x:Int))=((tOf s k x:Nat):Int):=by
 obtain⟨h1,h2,h3,h4,h5,h6,h7,h8⟩:=h;have e1:=not_is s.e h5;have e2:=u32_and_nat s.e s.f h5 h6;have e3:=u32_and_nat (4294967295 - s.e) s.g (by omega) h7;rw[e1,e2,e3,u32_xor_nat _ _ (and_lt h5) (and_lt (by omega))];unfold tOf;have e4:ShaSpec.mix s.e [6,11,25]=((Sha.rot s.e 6 ^^^ Sha.rot s.e 11) ^^^ Sha.rot s.e 25):=by simp only[ShaSpec.mix,List.foldl_cons,List.foldl_nil,Nat.zero_xor]
 rw[e4];simp only[IntKind.wrap_u32,Sha.m32];rw[show 4294967296 - 1 - s.e=4294967295 - s.e from rfl];generalize (Sha.rot s.e 6 ^^^ Sha.rot s.e 11) ^^^ Sha.rot s.e 25=A;generalize (s.e &&& s.f) ^^^ ((4294967295 - s.e) &&& s.g)=B;omega
theorem u_is(s:Sha.St)(h:Bd s):IntKind.u32.wrap (((ShaSpec.mix s.a [2,13,22]:Nat):Int)+Go.bits .xor .u32 (Go.bits .xor .u32 (Go.bits .and .u32 (s.a:Int) (s.b:Int)) (Go.bits .and .u32 (s.a:Int) (s.c:Int))) (Go.bits .and .u32 (s.b:Int) (s.c:Int)))=((uOf s:Nat):Int):=by
 obtain⟨h1,h2,h3,h4,h5,h6,h7,h8⟩:=h;rw[u32_and_nat s.a s.b h1 h2,u32_and_nat s.a s.c h1 h3,u32_and_nat s.b s.c h2 h3,u32_xor_nat _ _ (and_lt h1) (and_lt h1),u32_xor_nat _ _ (ShaSpec.xor_lt (and_lt h1) (and_lt h1)) (and_lt h2)];unfold uOf;have e4:ShaSpec.mix s.a [2,13,22]=((Sha.rot s.a 2 ^^^ Sha.rot s.a 13) ^^^ Sha.rot s.a 22):=by simp only[ShaSpec.mix,List.foldl_cons,List.foldl_nil,Nat.zero_xor]
 rw[e4];simp only[IntKind.wrap_u32,Sha.m32];generalize (Sha.rot s.a 2 ^^^ Sha.rot s.a 13) ^^^ Sha.rot s.a 22=A;generalize ((s.a &&& s.b) ^^^ (s.a &&& s.c)) ^^^ (s.b &&& s.c)=B;omega
end Go.Proofs.YtfdlmpicmkpabaaDoor.Ext
end
