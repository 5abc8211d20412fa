import Derived.Test.YtfdlmpicmkpabaaDoorProg
import Derived.WalkKit
import Derived.Below
import Derived.Test.YtfdlmpicmkpabaaDoorRows
import Derived.LaidMore
import Derived.Lib.LaidTab
import Derived.MakeChecks
/-
  Texts of this claim, one behind the other: what they prove stands above each.
-/
set_option linter.unusedVariables false
set_option linter.unusedSimpArgs false
section
namespace Sha
def m32:Nat:=4294967296
def rot(x n:Nat):Nat:=(x >>> n) ||| ((x <<< (32 - n))%m32)
def kk:List Nat:=[
 0x428a2f98,0x71374491,0xb5c0fbcf,0xe9b5dba5,0x3956c25b,0x59f111f1,0x923f82a4,0xab1c5ed5,
 0xd807aa98,0x12835b01,0x243185be,0x550c7dc3,0x72be5d74,0x80deb1fe,0x9bdc06a7,0xc19bf174,
 0xe49b69c1,0xefbe4786,0x0fc19dc6,0x240ca1cc,0x2de92c6f,0x4a7484aa,0x5cb0a9dc,0x76f988da,
 0x983e5152,0xa831c66d,0xb00327c8,0xbf597fc7,0xc6e00bf3,0xd5a79147,0x06ca6351,0x14292967,
 0x27b70a85,0x2e1b2138,0x4d2c6dfc,0x53380d13,0x650a7354,0x766a0abb,0x81c2c92e,0x92722c85,
 0xa2bfe8a1,0xa81a664b,0xc24b8b70,0xc76c51a3,0xd192e819,0xd6990624,0xf40e3585,0x106aa070,
 0x19a4c116,0x1e376c08,0x2748774c,0x34b0bcb5,0x391c0cb3,0x4ed8aa4a,0x5b9cca4f,0x682e6ff3,
 0x748f82ee,0x78a5636f,0x84c87814,0x8cc70208,0x90befffa,0xa4506ceb,0xbef9a3f7,0xc67178f2]
def words:Nat->List Nat->List Nat
 |0,_=>[]
 |n+1,a::b::c::d::l=>(((a <<< 24) ||| (b <<< 16)) ||| ((c <<< 8) ||| d))::words n l
 |_+1,_=>[]
def more:Nat->List Nat->List Nat
 |0,w=>w
 |n+1,w=>
  let p:=w.getD 14 0
  let q:=w.getD 1 0
  more n (((w.getD 15 0+((rot p 7 ^^^ rot p 18) ^^^ (p >>> 3))+w.getD 6 0+((rot q 17 ^^^ rot q 19) ^^^ (q >>> 10)))%m32)::w)
structure St where
 (a b c d e f g h:Nat)
 deriving DecidableEq
def rnd(s:St)(k w:Nat):St:=
 let t:=(s.h+((rot s.e 6 ^^^ rot s.e 11) ^^^ rot s.e 25)+((s.e &&& s.f) ^^^ ((m32 - 1 - s.e) &&& s.g))+k+w)%m32
 let u:=(((rot s.a 2 ^^^ rot s.a 13) ^^^ rot s.a 22)+(((s.a &&& s.b) ^^^ (s.a &&& s.c)) ^^^ (s.b &&& s.c)))%m32
 ⟨(t+u)%m32,s.a,s.b,s.c,(s.d+t)%m32,s.e,s.f,s.g⟩
def rounds:List Nat->List Nat->St->St
 |k::ks,w::ws,s=>rounds ks ws (rnd s k w)
 |_,_,s=>s
def block(s:St)(b:List Nat):St:=
 let v:=rounds kk (more 48 (words 16 b).reverse).reverse s
 ⟨(s.a+v.a)%m32,(s.b+v.b)%m32,(s.c+v.c)%m32,(s.d+v.d)%m32,(s.e+v.e)%m32,(s.f+v.f)%m32,(s.g+v.g)%m32,(s.h+v.h)%m32⟩
def init:St:=⟨0x6a09e667,0xbb67ae85,0x3c6ef372,0xa54ff53a,0x510e527f,0x9b05688c,0x1f83d9ab,0x5be0cd19⟩
def pad(n:Nat):List Nat:=128::(List.replicate ((119 - n%64)%64) 0++[(8*n) / 2^56%256,(8*n) / 2^48%256,(8*n) / 2^40%256,(8*n) / 2^32%256,(8*n) / 2^24%256,(8*n) / 2^16%256,(8*n) / 2^8%256,(8*n)%256])
def blocks:Nat->St->List Nat->St
 |0,s,_=>s
 |n+1,s,l=>blocks n (block s (l.take 64)) (l.drop 64)
def be(x:Nat):List Nat:=[x >>> 24,(x >>> 16)%256,(x >>> 8)%256,x%256]
def out(s:St):List Nat:=be s.a++be s.b++be s.c++be s.d++be s.e++be s.f++be s.g++be s.h
def sha(l:List Nat):List Nat:=let p:=l++pad l.length;out (blocks (p.length / 64) init p)
set_option maxRecDepth 100000 in
example:sha [97,98,99]=[0xba,0x78,0x16,0xbf,0x8f,0x01,0xcf,0xea,0x41,0x41,0x40,0xde,0x5d,0xae,0x22,0x23,0xb0,0x03,0x61,0xa3,0x96,0x17,0x7a,0x9c,0xb4,0x10,0xff,0x61,0xf2,0x00,0x15,0xad]:=by decide+kernel
end Sha
end
section
namespace Go.Proofs.YtfdlmpicmkpabaaDoor.Ext
set_option maxRecDepth 100000
open Go.RowKit
def GL(w:World):Prop:=∀i:Nat,i<64->w.cell? ⟨0,i,none⟩=some (.int .u32 (Sha.kk.getD i 0:Nat))
theorem GL.below{w w':World}(h:GL w)(hb:Below w.heap.size w w'):GL w':=fun i hi=>(hb.cell (World.block_lt_of_cell? w _ (h i hi))).trans (h i hi)
end Go.Proofs.YtfdlmpicmkpabaaDoor.Ext
end
section
namespace Go.Proofs.YtfdlmpicmkpabaaDoor.Ext
set_option maxRecDepth 100000
open Go.RowKit
theorem gN:Tryd.prog.globalNamed "aircheck/digest.round" =some 0:=by kernel_rfl
theorem gT:(Tryd.prog.globals[0]?).map (·.type)=some 160:=by kernel_rfl
theorem gl_of_laid{W:World}(h:laidMetH Tryd.prog [("aircheck/digest.round",Rows.laid_aircheck_digest_round)] W):GL W:=by
 rw[MakeChecks.laidMetH_plain _ _ _ (by kernel_rfl)] at h;have hT:=Lib.tabIs_of_head (zs:=Sha.kk.map fun n:Nat=>(n:Int)) gN gT Tryd.underlying160 Tryd.underlying117 (by kernel_rfl) (by kernel_rfl) h;intro i hi;have:=hT.cell gN i (by simpa [Sha.kk] using hi);rw[this];congr 2;have:i<Sha.kk.length:=by simpa [Sha.kk] using hi
 simp[List.getD_eq_getElem?_getD,List.getElem?_eq_getElem this]
end Go.Proofs.YtfdlmpicmkpabaaDoor.Ext
end
section
namespace Leb
def leb(z:Nat):List Nat:=if z<128 then [z] else (z%128+128)::leb (z / 128)
termination_by z
decreasing_by omega
theorem leb_small{z:Nat}(h:z<128):leb z=[z]:=by rw[leb,if_pos h]
theorem leb_big{z:Nat}(h:¬z<128):leb z=(z%128+128)::leb (z / 128):=by rw[leb,if_neg h]
def val:List Nat->Nat
 | []=>0
 |b::l=>b%128+128*val l
def Code:List Nat->Prop
 | []=>False
 | [b]=>b<128
 |b::l=>128<=b∧b<256∧Code l∧l≠[0]
theorem code_cons{b c:Nat}{l:List Nat}:Code (b::c::l)↔128<=b∧b<256∧Code (c::l)∧c::l≠[0]:=Iff.rfl
theorem leb_ne(z:Nat):leb z≠[]:=by rw[leb];split<;>simp
theorem leb_zero{z:Nat}(h:leb z=[0]):z=0:=by
 rw[leb] at h
 split at h
 ·simpa using h
 ·simp at h
theorem leb_code(z:Nat):Code (leb z):=by
 induction z using Nat.strongRecOn with
 |_ z ih=>
  by_cases h:z<128
  ·rw[leb_small h];exact h
  ·rw[leb_big h];have h1:=ih (z / 128) (by omega)
   match e:leb (z / 128),leb_ne (z / 128) with
   |c::l,_=>
    rw[code_cons];refine⟨by omega,by omega,by rw[<-e];exact h1,?_⟩;rw[<-e];intro e0;have:=leb_zero e0;omega
theorem val_leb(z:Nat):val (leb z)=z:=by
 induction z using Nat.strongRecOn with
 |_ z ih=>
  by_cases h:z<128
  ·rw[leb_small h];simp[val];omega
  ·rw[leb_big h];simp only[val];rw[ih (z / 128) (by omega)];omega
theorem code_pos{c:Nat}{l:List Nat}(h:Code (c::l))(hn:c::l≠[0]):0<val (c::l):=by
 induction l generalizing c with
 |nil=>simp only[Code] at h;simp[val] at*;omega
 |cons d l ih=>
  rw[code_cons] at h;have:=ih h.2.2.1 h.2.2.2;simp only[val] at*
  omega
theorem leb_val{l:List Nat}(h:Code l):leb (val l)=l:=by
 induction l with
 |nil=>exact h.elim
 |cons b l ih=>
  cases l with
  |nil=>simp only[Code] at h;simp only[val];rw[leb_small (by omega)];simp;omega
  |cons c l=>
   rw[code_cons] at h;obtain⟨h1,h2,h3,h4⟩:=h;have hp:=code_pos h3 h4;have hv:val (b::c::l)=b%128+128*val (c::l):=rfl;rw[hv,leb_big (by omega),show (b%128+128*val (c::l)) / 128=val (c::l) by omega,ih h3,show (b%128+128*val (c::l))%128+128=b by omega]
theorem code_prefix{a b x y:List Nat}(ha:Code a)(hb:Code b)(h:a++x=b++y):a=b∧x=y:=by
 induction a generalizing b with
 |nil=>exact ha.elim
 |cons p a ih=>
  cases b with
  |nil=>exact hb.elim
  |cons q b=>
   simp only[List.cons_append,List.cons.injEq] at h;obtain⟨rfl,h⟩:=h
   cases a with
   |nil=>
    cases b with
    |nil=>exact⟨rfl,by simpa using h⟩
    |cons d b=>simp only[Code] at ha;rw[code_cons] at hb;omega
   |cons c a=>
    cases b with
    |nil=>simp only[Code] at hb;rw[code_cons] at ha;omega
    |cons d b=>
     rw[code_cons] at ha hb;obtain⟨e1,e2⟩:=ih ha.2.2.1 hb.2.2.1 h;exact⟨by rw[e1],e2⟩
theorem leb_inj{a b:Nat}(h:leb a=leb b):a=b:=by rw[<-val_leb a,h,val_leb]
theorem leb_prefix{a b:Nat}{x y:List Nat}(h:leb a++x=leb b++y):a=b∧x=y:=by
 obtain⟨e,e2⟩:=code_prefix (leb_code a) (leb_code b) h;exact⟨leb_inj e,e2⟩
theorem leb_bytes(z:Nat):∀b ∈ leb z,b<256:=by
 induction z using Nat.strongRecOn with
 |_ z ih=>
  by_cases h:z<128
  ·rw[leb_small h];simp;omega
  ·rw[leb_big h];intro b hb;rcases List.mem_cons.1 hb with rfl |hb
   ·omega
   ·exact ih _ (by omega) b hb
theorem leb_length(k:Nat):∀z,z<128 ^ (k+1)->(leb z).length<=k+1:=by
 induction k with
 |zero=>intro z h;rw[leb_small (by simpa using h)];simp
 |succ k ih=>
  intro z h
  by_cases hz:z<128
  ·rw[leb_small hz];simp
  ·rw[leb_big hz];have:=ih (z / 128) (by rw[Nat.pow_succ] at h;omega);simp;omega
def zig(n:Int):Nat:=if n<0 then (-2*n - 1).toNat else (2*n).toNat
def zag(z:Nat):Int:=if z%2=1 then -((z / 2:Nat):Int) - 1 else ((z / 2:Nat):Int)
theorem zag_zig(n:Int):zag (zig n)=n:=by
 unfold zag zig
 split<;>split<;>omega
theorem zig_zag(z:Nat):zig (zag z)=z:=by
 unfold zag zig
 split<;>split<;>omega
theorem zig_inj{a b:Int}(h:zig a=zig b):a=b:=by rw[<-zag_zig a,h,zag_zig]
def enc(n:Int):List Nat:=leb (zig n)
end Leb
end
