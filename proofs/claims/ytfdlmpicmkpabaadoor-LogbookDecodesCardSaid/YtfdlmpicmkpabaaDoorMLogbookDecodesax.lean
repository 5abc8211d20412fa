import Derived.Test.YtfdlmpicmkpabaaDoorMLogbookDecodesai
import Derived.Test.YtfdlmpicmkpabaaDoorMLogbookDecodesap
import Derived.Laws.BitsAllLaws
/-
  Texts of this claim, one behind the other: what they prove stands above each.
-/
set_option linter.unusedVariables false
set_option linter.unusedSimpArgs false
section
namespace Go.Proofs.YtfdlmpicmkpabaaDoor.ShaSpec
set_option maxRecDepth 100000
open Go.RowKit Go.Proofs.YtfdlmpicmkpabaaDoorW.PrintWords Go.Proofs.YtfdlmpicmkpabaaDoorW.PrintLast Go.Proofs.YtfdlmpicmkpabaaDoorW.PrintMore Go.Proofs.YtfdlmpicmkpabaaDoor.Ext Go.Proofs.YtfdlmpicmkpabaaDoor.PR
theorem rot_lt(x n:Nat)(hx:x<4294967296):Sha.rot x n<4294967296:=by
 unfold Sha.rot Sha.m32;exact Nat.or_lt_two_pow (n:=32) (Nat.lt_of_le_of_lt (Nat.shiftRight_le _ _) hx) (Nat.mod_lt _ (by decide))
theorem rotl(x n:Nat)(hx:x<4294967296)(h0:0<n)(hn:n<32):bits_RotateLeft32.f (x:Int) (wrap64 (-(n:Int)))=some ((Sha.rot x n:Nat):Int):=by
 have e1:wrap64 (-(n:Int))= -(n:Int):=by unfold wrap64;omega
 have e2:IntKind.u64.wrap (-(n:Int))=((18446744073709551616 - n:Nat):Int):=by rw[IntKind.wrap_u64];omega
 have e3:Go.bits .and .u64 ((18446744073709551616 - n:Nat):Int) 31=((32 - n:Nat):Int):=by
  have:=u64_and_nat (18446744073709551616 - n) 31 (by omega) (by decide);rw[show (31:Nat)=2 ^ 5 - 1 from rfl,Nat.and_two_pow_sub_one_eq_mod] at this;rw[show (31:Int)=((2 ^ 5 - 1:Nat):Int) from rfl,this];congr 1;omega
 have e4:IntKind.u64.wrap (32 - ((32 - n:Nat):Int))=(n:Int):=by rw[IntKind.wrap_u64];omega
 unfold bits_RotateLeft32.f;rw[e1,e2,e3,e4,if_pos (by omega),if_pos (by omega)];have s1:shl .u32 (x:Int) ((32 - n:Nat):Int)=(((x <<< (32 - n))%4294967296:Nat):Int):=by
  unfold shl;rw[show min ((32 - n:Nat):Int).toNat IntKind.u32.bits=32 - n by simp[IntKind.bits],show ((2:Int) ^ (32 - n))=((2 ^ (32 - n):Nat):Int) by simp, <-Int.natCast_mul,IntKind.wrap_u32,Nat.shiftLeft_eq];omega
 have s2:shr .u32 (x:Int) (n:Int)=((x >>> n:Nat):Int):=by
  unfold shr;rw[show min ((n:Nat):Int).toNat IntKind.u32.bits=n by simp[IntKind.bits];omega,show ((2:Int) ^ n)=((2 ^ n:Nat):Int) by simp,Nat.shiftRight_eq_div_pow];rfl
 rw[s1,s2,u32_or_nat _ _ (Nat.mod_lt _ (by decide)) (Nat.lt_of_le_of_lt (Nat.shiftRight_le _ _) hx),Nat.or_comm];rfl
theorem xor_lt{a b:Nat}(ha:a<4294967296)(hb:b<4294967296):a ^^^ b<4294967296:=Nat.xor_lt_two_pow (n:=32) ha hb
def mix(x:Nat)(l:List Nat):Nat:=l.foldl (fun a n=>a ^^^ Sha.rot x n) 0
theorem mixed_loop(x:Nat)(hx:x<4294967296)(l:List Nat)(hl:∀n ∈ l,0<n∧n<32)(hlen:l.length<1000)(m:Nat):∀(i k a:Nat),i+m=l.length->m<k->a<4294967296->
  digest_mixed.l0 k (x:Int) (a:Int) (l.map fun n:Nat=>(n:Int)) (l.length:Int) (i:Int)=some (((l.drop i).foldl (fun a n=>a ^^^ Sha.rot x n) a:Nat):Int):=by
 induction m with
 |zero=>
  intro i k a hi hk ha;obtain⟨k,rfl⟩:∃q,k=q+1:=⟨k - 1,by omega⟩
  rw[digest_mixed.l0,if_neg (by omega),List.drop_of_length_le (by omega)];rfl
 |succ m ih=>
  intro i k a hi hk ha;obtain⟨k,rfl⟩:∃q,k=q+1:=⟨k - 1,by omega⟩
  have hil:i<l.length:=by omega
  have hrd:rd (l.map fun n:Nat=>(n:Int)) (i:Int)=((l[i]:Nat):Int):=by
   unfold rd;simp[List.getD_eq_getElem?_getD,hil]
  have hw:wrap64 ((i:Int)+1)=((i+1:Nat):Int):=by unfold wrap64;omega
  have hb:=hl _ (List.getElem_mem hil);rw[digest_mixed.l0,if_pos (by omega),if_pos (by omega),if_pos (by rw[List.length_map];omega),hrd,rotl x _ hx hb.1 hb.2,Option.bind_some,u32_xor_nat _ _ ha (rot_lt _ _ hx),hw,ih (i+1) k _ (by omega) (by omega) (xor_lt ha (rot_lt _ _ hx)),List.drop_eq_getElem_cons hil];rfl
theorem mixed_is(x:Nat)(hx:x<4294967296)(l:List Nat)(hl:∀n ∈ l,0<n∧n<32)(hlen:l.length<1000):digest_mixed.f (l.length+1) (x:Int) (l.map fun n:Nat=>(n:Int))=some ((mix x l:Nat):Int):=by
 unfold digest_mixed.f;rw[List.length_map];exact mixed_loop x hx l hl hlen l.length 0 _ 0 (by omega) (by omega) (by decide)
end Go.Proofs.YtfdlmpicmkpabaaDoor.ShaSpec
end
section
namespace Go.Proofs.YtfdlmpicmkpabaaDoor.Ext
set_option maxRecDepth 100000
open Go.RowKit
def word(a b c d:Nat):Nat:=((a <<< 24 ||| b <<< 16) ||| c <<< 8) ||| d
def wordAt(bs:List Nat)(j:Nat):Nat:=word (bs.getD (4*j) 0) (bs.getD (4*j+1) 0) (bs.getD (4*j+2) 0) (bs.getD (4*j+3) 0)
def first(bs:List Nat)(k:Nat):List Nat:=(List.range 64).map fun j=>if j<k then wordAt bs j else 0
def next(p:List Nat):Nat:=(p.getD (p.length - 16) 0+(ShaSpec.mix (p.getD (p.length - 15) 0) [7,18] ^^^ (p.getD (p.length - 15) 0 >>> 3))+p.getD (p.length - 7) 0+(ShaSpec.mix (p.getD (p.length - 2) 0) [17,19] ^^^ (p.getD (p.length - 2) 0 >>> 10)))%4294967296
def grow(bs:List Nat):Nat->List Nat
 |0=>(List.range 16).map (wordAt bs)
 |m+1=>grow bs m++[next (grow bs m)]
def arr(bs:List Nat)(m:Nat):List Nat:=grow bs m++List.replicate (48 - m) 0
theorem grow_len(bs:List Nat)(m:Nat):(grow bs m).length=16+m:=by
 induction m with
 |zero=>simp[grow]
 |succ m ih=>simp[grow,ih];omega
theorem arr_len(bs:List Nat)(m:Nat)(h:m<=48):(arr bs m).length=64:=by simp[arr,grow_len];omega
theorem arr_at(bs:List Nat)(m j:Nat)(h:j<16+m):(arr bs m).getD j 0=(grow bs m).getD j 0:=by
 unfold arr;rw[List.getD_eq_getElem?_getD,List.getD_eq_getElem?_getD,List.getElem?_append_left (by rw[grow_len];exact h)]
theorem arr_set(bs:List Nat)(m:Nat)(h:m<48):(arr bs m).set (16+m) (next (grow bs m))=arr bs (m+1):=by
 unfold arr;rw[List.set_append_right _ _ (by rw[grow_len];omega),grow_len,Nat.sub_self,show 48 - m=(48 - (m+1))+1 by omega,List.replicate_succ,List.set_cons_zero];simp[grow]
theorem first_arr(bs:List Nat):first bs 16=arr bs 0:=by
 simp only[first,arr,grow];apply List.ext_getElem
 ·simp
 ·intro i h1 h2;simp only[List.getElem_map,List.getElem_range,List.getElem_append,List.length_map,List.length_range]
  by_cases h:i<16
  ·simp[h]
  ·rw[if_neg h,dif_neg h,List.getElem_replicate]
theorem or_lt{a b:Nat}(ha:a<4294967296)(hb:b<4294967296):a ||| b<4294967296:=Nat.or_lt_two_pow (n:=32) ha hb
theorem word_is(a b c d:Nat)(ha:a<256)(hb:b<256)(hc:c<256)(hd:d<256):
  Go.bits .or .u32 (Go.bits .or .u32 (Go.bits .or .u32 (IntKind.u32.wrap (IntKind.u32.wrap (a:Int)*16777216)) (IntKind.u32.wrap (IntKind.u32.wrap (b:Int)*65536))) (IntKind.u32.wrap (IntKind.u32.wrap (c:Int)*256))) (IntKind.u32.wrap (d:Int))=((word a b c d:Nat):Int):=by
 have e0:IntKind.u32.wrap (IntKind.u32.wrap (a:Int)*16777216)=((a*16777216:Nat):Int):=by simp only[IntKind.wrap_u32];omega
 have e1:IntKind.u32.wrap (IntKind.u32.wrap (b:Int)*65536)=((b*65536:Nat):Int):=by simp only[IntKind.wrap_u32];omega
 have e2:IntKind.u32.wrap (IntKind.u32.wrap (c:Int)*256)=((c*256:Nat):Int):=by simp only[IntKind.wrap_u32];omega
 have e3:IntKind.u32.wrap (d:Int)=(d:Int):=by simp only[IntKind.wrap_u32];omega
 rw[e0,e1,e2,e3,u32_or_nat _ _ (by omega) (by omega),u32_or_nat _ _ (or_lt (by omega) (by omega)) (by omega),u32_or_nat _ _ (or_lt (or_lt (by omega) (by omega)) (by omega)) (by omega)];simp[word,Nat.shiftLeft_eq]
theorem first_len(bs:List Nat)(k:Nat):(first bs k).length=64:=by simp[first]
theorem first_set(bs:List Nat)(k:Nat)(hk:k<64):(first bs k).set k (wordAt bs k)=first bs (k+1):=by
 apply List.ext_getElem
 ·simp[first]
 ·intro i h1 h2;rw[List.getElem_set];simp only[first,List.getElem_map,List.getElem_range]
  by_cases e:k=i
  ·subst e;simp
  ·rw[if_neg e]
   by_cases hi:i<k
   ·rw[if_pos hi,if_pos (by omega)]
   ·rw[if_neg hi,if_neg (by omega)]
theorem getD_rev(l:List Nat)(i:Nat)(h:i<l.length):l.reverse.getD i 0=l.getD (l.length - 1 - i) 0:=by
 rw[List.getD_eq_getElem?_getD,List.getD_eq_getElem?_getD,List.getElem?_reverse h]
theorem more_grow(bs:List Nat)(n:Nat):∀m,Sha.more n (grow bs m).reverse=(grow bs (m+n)).reverse:=by
 induction n with
 |zero=>intro m;rfl
 |succ n ih=>
  intro m;have hl:=grow_len bs m;simp only[Sha.more];rw[getD_rev _ 14 (by omega),getD_rev _ 1 (by omega),getD_rev _ 15 (by omega),getD_rev _ 6 (by omega)];have hn:(((grow bs m).getD ((grow bs m).length - 1 - 15) 0+((Sha.rot ((grow bs m).getD ((grow bs m).length - 1 - 14) 0) 7 ^^^ Sha.rot ((grow bs m).getD ((grow bs m).length - 1 - 14) 0) 18) ^^^ ((grow bs m).getD ((grow bs m).length - 1 - 14) 0 >>> 3))+(grow bs m).getD ((grow bs m).length - 1 - 6) 0+((Sha.rot ((grow bs m).getD ((grow bs m).length - 1 - 1) 0) 17 ^^^ Sha.rot ((grow bs m).getD ((grow bs m).length - 1 - 1) 0) 19) ^^^ ((grow bs m).getD ((grow bs m).length - 1 - 1) 0 >>> 10)))%Sha.m32)=next (grow bs m):=by
   unfold next
   rw[show (grow bs m).length - 1 - 15=(grow bs m).length - 16 by omega,show (grow bs m).length - 1 - 14=(grow bs m).length - 15 by omega,show (grow bs m).length - 1 - 6=(grow bs m).length - 7 by omega,show (grow bs m).length - 1 - 1=(grow bs m).length - 2 by omega];simp only[ShaSpec.mix,List.foldl_cons,List.foldl_nil,Nat.zero_xor];rfl
  rw[hn];have:=ih (m+1);rw[show m+(n+1)=m+1+n by omega, <-this];simp[grow]
theorem words_are(n:Nat):∀bs:List Nat,4*n<=bs.length->Sha.words n bs=(List.range n).map (wordAt bs):=by
 induction n with
 |zero=>intro bs h;rfl
 |succ n ih=>
  intro bs h
  match bs,h with
  |a::b::c::d::l,h=>
   simp only[List.length_cons] at h;simp only[Sha.words];rw[ih l (by omega),List.range_succ_eq_map,List.map_cons,List.map_map];have e:(((a <<< 24) ||| (b <<< 16)) ||| ((c <<< 8) ||| d))=wordAt (a::b::c::d::l) 0:=by
    show _=word a b c d
    unfold word;rw[Nat.or_assoc (_ ||| _)]
   rw[e];refine congrArg _ ?_;refine List.map_congr_left fun j _=>?_
   show wordAt l j=wordAt (a::b::c::d::l) (j+1)
   unfold wordAt;rw[show 4*(j+1)=4*j+1+1+1+1 by omega];simp only[List.getD_cons_succ,Nat.add_right_comm _ 1]
  | [],h=>simp at h
  | [_],h=>simp at h;omega
  | [_,_],h=>simp at h;omega
  | [_,_,_],h=>simp at h;omega
theorem arr_all(bs:List Nat)(h:bs.length=64):arr bs 48=(Sha.more 48 (Sha.words 16 bs).reverse).reverse:=by
 have h0:Sha.words 16 bs=grow bs 0:=words_are 16 bs (by omega);rw[h0,more_grow,List.reverse_reverse];simp[arr]
end Go.Proofs.YtfdlmpicmkpabaaDoor.Ext
end
