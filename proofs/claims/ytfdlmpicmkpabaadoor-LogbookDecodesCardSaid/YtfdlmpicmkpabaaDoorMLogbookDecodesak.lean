import Derived.Test.YtfdlmpicmkpabaaDoorMLogbookDecodesah
import Derived.Test.YtfdlmpicmkpabaaDoorMLogbookDecodesac
import Derived.RangeFuncBox
import Derived.RangeFuncLeaves
import Derived.Shelf.Abstract
import Derived.WalkKit
import Derived.OwnWalkIn
import Derived.TacticsInMore
import Derived.LoopNIn
import Derived.LoopIn
import Derived.Sort.QuietIn
import Derived.Lib.Hide
import Derived.Shelf.Small.Bits
import Derived.Test.YtfdlmpicmkpabaaDoorProg
import Derived.Test.YtfdlmpicmkpabaaDoorMLogbookDecodesai
/-
  Texts of this claim, one behind the other: what they prove stands above each.
-/
set_option linter.unusedVariables false
set_option linter.unusedSimpArgs false
section
namespace Tree
def left(n:Nat):Nat:=2 ^ Nat.log2 (n - 1)
theorem left_lt{n:Nat}(h:2<=n):left n<n:=by
 have:=Nat.log2_self_le (n:=n - 1) (by omega);unfold left;omega
theorem left_pos(n:Nat):0<left n:=Nat.two_pow_pos _
theorem left_eq{n j:Nat}(h1:2 ^ j<n)(h2:n<=2*2 ^ j):left n=2 ^ j:=by
 have:Nat.log2 (n - 1)=j:=(Nat.log2_eq_iff (by omega)).2 ⟨by omega,by rw[Nat.pow_succ];omega⟩;unfold left;rw[this]
section
variable {β α:Type} (e:α) (lf:β->α) (nd:α->α->α)
def root(l:List β):α:=
 match l with
 | []=>e
 | [x]=>lf x
 |a::b::l=>nd (root ((a::b::l).take (left (a::b::l).length))) (root ((a::b::l).drop (left (a::b::l).length)))
termination_by l.length
decreasing_by
 ·have:=left_lt (n:=(a::b::l).length) (by simp);simp only[List.length_take];omega
 ·have:=left_pos (a::b::l).length;simp only[List.length_drop,List.length_cons] at*;omega
theorem root_nil:root e lf nd []=e:=by rw[root]
theorem root_one(x:β):root e lf nd [x]=lf x:=by rw[root]
theorem root_big{l:List β}(h:2<=l.length):root e lf nd l=nd (root e lf nd (l.take (left l.length))) (root e lf nd (l.drop (left l.length))):=by
 match l,h with
 |a::b::l,_=>rw[root]
def proofR(l:List β)(i:Nat):List α:=
 if h:l.length<=1 then [] else
  if i<left l.length then root e lf nd (l.drop (left l.length))::proofR (l.take (left l.length)) i
  else root e lf nd (l.take (left l.length))::proofR (l.drop (left l.length)) (i - left l.length)
termination_by l.length
decreasing_by
 ·have:=left_lt (n:=l.length) (by omega);simp only[List.length_take];omega
 ·have:=left_pos l.length;simp only[List.length_drop];omega
theorem proofR_small{l:List β}(h:l.length<=1)(i:Nat):proofR e lf nd l i=[]:=by rw[proofR,dif_pos h]
theorem proofR_low{l:List β}{i:Nat}(h:2<=l.length)(hi:i<left l.length):proofR e lf nd l i=root e lf nd (l.drop (left l.length))::proofR e lf nd (l.take (left l.length)) i:=by
 rw[proofR,dif_neg (by omega),if_pos hi]
theorem proofR_high{l:List β}{i:Nat}(h:2<=l.length)(hi:left l.length<=i):proofR e lf nd l i=root e lf nd (l.take (left l.length))::proofR e lf nd (l.drop (left l.length)) (i - left l.length):=by
 rw[proofR,dif_neg (by omega),if_neg (by omega)]
def value(n i:Nat)(s:β)(q:List α):Option α:=
 match q with
 | []=>if n=1 then some (lf s) else none
 |x::q=>if n=1 then none else
  if i<left n then (value (left n) i s q).map (fun v=>nd v x) else (value (n - left n) (i - left n) s q).map (fun v=>nd x v)
theorem value_one(i:Nat)(s:β)(q:List α):value lf nd 1 i s q=if q=[] then some (lf s) else none:=by
 cases q<;>simp[value]
theorem value_nil{n:Nat}(h:n≠1)(i:Nat)(s:β):value lf nd n i s []=none:=by simp[value,h]
theorem value_low{n i:Nat}(h:n≠1)(hi:i<left n)(s:β)(x:α)(q:List α):value lf nd n i s (x::q)=(value lf nd (left n) i s q).map (fun v=>nd v x):=by
 simp[value,h,hi]
theorem value_high{n i:Nat}(h:n≠1)(hi:left n<=i)(s:β)(x:α)(q:List α):value lf nd n i s (x::q)=(value lf nd (n - left n) (i - left n) s q).map (fun v=>nd x v):=by
 simp[value,h,Nat.not_lt.mpr hi]
def depth(n i:Nat):Nat:=
 if h:n<=1 then 0 else
  if i<left n then depth (left n) i+1 else depth (n - left n) (i - left n)+1
termination_by n
decreasing_by
 ·exact left_lt (by omega)
 ·have:=left_pos n;omega
def partR(l:List β)(m:Nat)(whole:Bool):List α:=
 if h:l.length<=m∨l.length<=1 then (if whole then [] else [root e lf nd l]) else
  if m<=left l.length then root e lf nd (l.drop (left l.length))::partR (l.take (left l.length)) m whole
  else root e lf nd (l.take (left l.length))::partR (l.drop (left l.length)) (m - left l.length) false
termination_by l.length
decreasing_by
 ·have:=left_lt (n:=l.length) (by omega);simp only[List.length_take];omega
 ·have:=left_pos l.length;simp only[List.length_drop];omega
theorem partR_end{l:List β}{m:Nat}(h:l.length<=m)(whole:Bool):partR e lf nd l m whole=if whole then [] else [root e lf nd l]:=by rw[partR,dif_pos (.inl h)]
theorem partR_low{l:List β}{m:Nat}(h0:1<=m)(h:m<l.length)(hm:m<=left l.length)(whole:Bool):partR e lf nd l m whole=root e lf nd (l.drop (left l.length))::partR e lf nd (l.take (left l.length)) m whole:=by
 rw[partR,dif_neg (by omega),if_pos hm]
theorem partR_high{l:List β}{m:Nat}(h0:1<=m)(h:m<l.length)(hm:left l.length<m)(whole:Bool):partR e lf nd l m whole=root e lf nd (l.take (left l.length))::partR e lf nd (l.drop (left l.length)) (m - left l.length) false:=by
 rw[partR,dif_neg (by omega),if_neg (by omega)]
def both(old:α)(m n:Nat)(q:List α)(whole:Bool):Option (α × α):=
 match q with
 | []=>if n<=m then (if whole then some (old,old) else none) else none
 |x::q=>if n<=m then (if whole then none else if q=[] then some (x,x) else none) else
  if m<=left n then (both old m (left n) q whole).map (fun p=>(p.1,nd p.2 x)) else (both old (m - left n) (n - left n) q false).map (fun p=>(nd x p.1,nd x p.2))
theorem both_whole{old:α}{m n:Nat}(h:n<=m)(q:List α):both nd old m n q true=if q=[] then some (old,old) else none:=by
 cases q<;>simp[both,h]
theorem both_part{old:α}{m n:Nat}(h:n<=m)(q:List α):both nd old m n q false=match q with | [x]=>some (x,x) |_=>none:=by
 match q with
 | []=>simp[both,h]
 | [x]=>simp[both,h]
 |x::y::q=>simp[both,h]
theorem both_nil{old:α}{m n:Nat}(h:m<n)(whole:Bool):both nd old m n [] whole=none:=by simp[both,Nat.not_le.mpr h]
theorem both_low{old:α}{m n:Nat}(h:m<n)(hm:m<=left n)(x:α)(q:List α)(whole:Bool):both nd old m n (x::q) whole=(both nd old m (left n) q whole).map (fun p=>(p.1,nd p.2 x)):=by
 simp[both,Nat.not_le.mpr h,hm]
theorem both_high{old:α}{m n:Nat}(h:m<n)(hm:left n<m)(x:α)(q:List α)(whole:Bool):both nd old m n (x::q) whole=(both nd old (m - left n) (n - left n) q false).map (fun p=>(nd x p.1,nd x p.2)):=by
 simp[both,Nat.not_le.mpr h,Nat.not_le.mpr hm]
def fold:List (α × Nat)->α
 | []=>e
 | [x]=>x.1
 |x::l=>nd x.1 (fold l)
inductive Stack:List (α × Nat)->List β->Nat->Prop
 |nil (b:Nat):Stack [] [] b
 |cons {st:List (α × Nat)} {l s:List β} {j b:Nat} (h:Stack st l j) (hj:j<b) (hs:s.length=2 ^ j):Stack ((root e lf nd s,2 ^ j)::st) (s++l) b
theorem Stack.lt{st:List (α × Nat)}{l:List β}{b:Nat}(h:Stack e lf nd st l b):l.length<2 ^ b:=by
 induction h with
 |nil=>exact Nat.two_pow_pos _
 |cons h hj hs ih=>
  rename_i j b;have:2 ^ (j+1)<=2 ^ b:=Nat.pow_le_pow_right (by decide) hj;rw[Nat.pow_succ] at this;simp;omega
theorem Stack.fold{st:List (α × Nat)}{l:List β}{b:Nat}(h:Stack e lf nd st l b):fold e nd st=root e lf nd l:=by
 induction h with
 |nil=>simp[Tree.fold,root_nil]
 | @cons st l s j b h hj hs ih=>
  cases h with
  |nil=>simp[Tree.fold]
  | @cons st' l' s' j' _ h' hj' hs'=>
   have hlt:=Stack.lt e lf nd (Stack.cons (e:=e) (lf:=lf) (nd:=nd) h' hj' hs');have hp:=Nat.two_pow_pos j';have hl:left (s++(s'++l')).length=2 ^ j:=left_eq (by simp at*;omega) (by simp at*;omega);rw[root_big _ _ _ (l:=s++(s'++l')) (by simp;have:=Nat.two_pow_pos j;omega),hl,List.take_left' hs,List.drop_left' hs, <-ih];rfl
end
end Tree
namespace Tree
section
variable {β α:Type} (e:α) (lf:β->α) (nd:α->α->α)
inductive StackR:List (α × Nat)->List β->Prop
 |nil:StackR [] []
 |one (x:α × Nat) (s:List β) (j:Nat) (hx:x=(root e lf nd s,2 ^ j)) (hs:s.length=2 ^ j):StackR [x] s
 |cons (x y:α × Nat) (st:List (α × Nat)) (l m s:List β) (j k:Nat) (h:StackR (y::st) l) (hx:x=(root e lf nd s,2 ^ j)) (hy:y.2=2 ^ k) (hj:j<k) (hs:s.length=2 ^ j) (hm:m=l++s):
   StackR (x::y::st) m
inductive Loose:List (α × Nat)->List β->Prop
 |one (x:α × Nat) (s:List β) (j:Nat) (hx:x=(root e lf nd s,2 ^ j)) (hs:s.length=2 ^ j):Loose [x] s
 |cons (x y:α × Nat) (st:List (α × Nat)) (l m s:List β) (j k:Nat) (h:StackR e lf nd (y::st) l) (hx:x=(root e lf nd s,2 ^ j)) (hy:y.2=2 ^ k) (hj:j<=k) (hs:s.length=2 ^ j) (hm:m=l++s):
   Loose (x::y::st) m
theorem pow_inj{j k:Nat}(h:2 ^ j=2 ^ k):j=k:=by
 rcases Nat.lt_trichotomy j k with h1 |h1 |h1
 ·have:=Nat.pow_lt_pow_right (a:=2) (by decide) h1;omega
 ·exact h1
 ·have:=Nat.pow_lt_pow_right (a:=2) (by decide) h1;omega
theorem StackR.last{x:α × Nat}{st:List (α × Nat)}{l:List β}(h:StackR e lf nd (x::st) l):∃j,x.2=2 ^ j:=by
 cases h with
 |one _ s j hx hs=>exact⟨j,by rw[hx]⟩
 |cons _ y st l m s j k h hx hy hj hs hm=>exact⟨j,by rw[hx]⟩
theorem root_join{s t:List β}{j:Nat}(hs:s.length=2 ^ j)(ht:t.length=2 ^ j):nd (root e lf nd t) (root e lf nd s)=root e lf nd (t++s):=by
 have hp:=Nat.two_pow_pos j;have hl:left (t++s).length=2 ^ j:=left_eq (by simp;omega) (by simp;omega);rw[root_big _ _ _ (l:=t++s) (by simp;omega),hl,List.take_left' ht,List.drop_left' ht]
theorem Loose.join{st:List (α × Nat)}{l:List β}{x y:α × Nat}(h:Loose e lf nd (x::y::st) l)(hxy:y.2=x.2):Loose e lf nd ((nd y.1 x.1,2*x.2)::st) l:=by
 cases h with
 |cons _ _ _ l _ s j k h hx hy hj hs hm=>
  subst hm;have hjk:k=j:=pow_inj (by rw[<-hy,hxy,hx]);subst hjk;have h2:2*2 ^ k=2 ^ (k+1):=by rw[Nat.pow_succ];omega
  cases h with
  |one _ _ k' hy' ht=>
   have hk:k'=k:=pow_inj (by rw[<-hy,hy']);subst hk;exact .one _ _ (k'+1) (by rw[hx,hy',root_join e lf nd hs ht,h2]) (by rw[List.length_append,ht,hs,Nat.pow_succ];omega)
  |cons _ z st' l' _ t k2 k' h' hx' hz hj' ht hm'=>
   subst hm';have hk:k2=k:=pow_inj (by rw[<-hy,hx']);subst hk;exact .cons _ _ _ l' _ (t++s) (k2+1) k' h' (by rw[hx,hx',root_join e lf nd hs ht,h2]) hz (by omega) (by rw[List.length_append,ht,hs,Nat.pow_succ];omega) (by rw[List.append_assoc])
theorem Loose.stop{st:List (α × Nat)}{l:List β}{x y:α × Nat}(h:Loose e lf nd (x::y::st) l)(hxy:y.2≠x.2):StackR e lf nd (x::y::st) l:=by
 cases h with
 |cons _ _ _ l _ s j k h hx hy hj hs hm=>
  refine .cons _ _ _ _ _ _ j k h hx hy ?_ hs hm;rcases Nat.lt_or_ge j k with h |h
  ·exact h
  ·exact absurd (by rw[hy,hx,Nat.le_antisymm hj h]) hxy
theorem Loose.single{l:List β}{x:α × Nat}(h:Loose e lf nd [x] l):StackR e lf nd [x] l:=by
 cases h with
 |one _ s j hx hs=>exact .one _ _ j hx hs
theorem StackR.push{st:List (α × Nat)}{l:List β}(h:StackR e lf nd st l)(x:β):Loose e lf nd ((lf x,1)::st) (l++[x]):=by
 have hx:lf x=root e lf nd [x]:=(root_one e lf nd x).symm
 match st,h with
 | [],h=>
  cases h
  exact .one _ _ 0 (by rw[hx];rfl) rfl
 |y::st,h=>
  obtain⟨k,hk⟩:=StackR.last e lf nd h;exact .cons _ _ _ l _ [x] 0 k h (by rw[hx]) hk (by omega) rfl rfl
def foldR:α->List α->α
 |out,[]=>out
 |out,r::l=>foldR (nd r out) l
theorem StackR.fold{l:List β}{x:α × Nat}{st:List (α × Nat)}(h:StackR e lf nd (x::st) l):foldR nd x.1 (st.map (·.1))=root e lf nd l:=by
 have key:∀(st:List (α × Nat)) (l:List β),StackR e lf nd st l->∀(u:List β),(∀y st',st=y::st'->u.length<y.2)->0<u.length->foldR nd (root e lf nd u) (st.map (·.1))=root e lf nd (l++u):=by
  intro st l h
  induction h with
  |nil=>intro u _ _;simp[foldR]
  |one x s j hx hs=>
   intro u hu h0;subst hx;have hu':=hu _ _ rfl;simp only at hu';have hl:left (s++u).length=2 ^ j:=left_eq (by simp;omega) (by simp;omega);have hp:=Nat.two_pow_pos j;rw[root_big _ _ _ (l:=s++u) (by simp;omega),hl,List.take_left' hs,List.drop_left' hs];rfl
  |cons x y st l m s j k h hx hy hj hs hm ih=>
   intro u hu h0;subst hx;subst hm;have hu':=hu _ _ rfl;simp only at hu';have hl:left (s++u).length=2 ^ j:=left_eq (by simp;omega) (by simp;omega);have hp:=Nat.two_pow_pos j;have hr:nd (root e lf nd s) (root e lf nd u)=root e lf nd (s++u):=by
    rw[root_big _ _ _ (l:=s++u) (by simp;omega),hl,List.take_left' hs,List.drop_left' hs]
   have:=ih (s++u) (fun z st' e=>by
    injection e with e1 e2;subst e1
    have:2 ^ (j+1)<=2 ^ k:=Nat.pow_le_pow_right (by decide) hj;rw[Nat.pow_succ] at this;rw[hy];simp;omega) (by simp;omega)
   rw[List.append_assoc, <-this];simp only[List.map_cons,foldR];rw[hr]
 cases h with
 |one _ s j hx hs=>subst hx;rfl
 |cons _ y st l m s j k h hx hy hj hs hm=>
  subst hx;subst hm;exact key _ _ h s (fun z st' e=>by
   injection e with e1 e2;subst e1
   rw[hs,hy];exact Nat.pow_lt_pow_right (by decide) hj) (by rw[hs];exact Nat.two_pow_pos j)
end
section
variable {σ:Type} (S:σ->σ) (L:σ->σ) (N:σ->σ->σ) (dig:σ->Prop)
def Coll(a b:List σ):Prop:=∃(i:Nat) (x y:σ),a[i]?=some x∧b[i]?=some y∧x≠y∧S x=S y
theorem Coll.cons{a b:List σ}(x y:σ)(h:Coll S a b):Coll S (x::a) (y::b):=by
 obtain⟨i,p,q,h1,h2,h3,h4⟩:=h;exact⟨i+1,p,q,by simpa using h1,by simpa using h2,h3,h4⟩
theorem Coll.head{a b:List σ}{x y:σ}(h:x≠y)(hs:S x=S y):Coll S (x::a) (y::b):=⟨0,x,y,by simp,by simp,h,hs⟩
def way(n i:Nat)(s:σ):List σ->List σ × σ
 | []=>([L s],S (L s))
 |x::q=>if n<=1 then ([L s],S (L s)) else
  if i<left n then let p:=way (left n) i s q;(N p.2 x::p.1,S (N p.2 x))
  else let p:=way (n - left n) (i - left n) s q;(N x p.2::p.1,S (N x p.2))
def sides(old:σ)(m n:Nat)(q:List σ)(whole:Bool):List σ × σ:=
 match q with
 | []=>([],old)
 |x::q=>if n<=m then (if whole then ([],old) else ([],(x::q).getLast (by simp))) else
  if m<=left n then let p:=sides old m (left n) q whole;(N p.2 x::p.1,S (N p.2 x))
  else let p:=sides old (m - left n) (n - left n) q false;(N x p.2::p.1,S (N x p.2))
end
end Tree
end
section
namespace Go.Proofs.YtfdlmpicmkpabaaDoor.Ext
set_option maxRecDepth 100000
open Go.RowKit Go.Shelf
attribute [local go_sem] Oper.semAt_some
theorem back_walk(A:Option Addr)(n c:Nat)(w:World):
  Calls Tryd.prog 80 #[.slice A n c] w fun e w'=>e=.returned (.func (.func 97) #[] #[.pointer (some ⟨w.heap.size,0,none⟩)])∧w'=w.alloc (.cells #[.slice A n c] 35):=by
 go_enter Tryd.func80,Tryd.ntmps80
 go_wp2
 go_ret
 exact⟨rfl,rfl⟩
def backs{α:Type}(d:α)(ys:List α):List (Nat × α):=(List.range ys.length).reverse.map fun i=>(i,ys.getD i d)
abbrev pair(p:Nat × ByteArray):Array Value:= #[.int .i64 (p.1:Int),.string p.2]
theorem backs_len{α:Type}(d:α)(ys:List α):(backs d ys).length=ys.length:=by simp[backs]
theorem backs_step{α:Type}(d:α)(ys:List α)(j:Nat)(hj:j<ys.length):(backs d ys).take (j+1)=(backs d ys).take j++[(ys.length - 1 - j,ys.getD (ys.length - 1 - j) d)]:=by
 rw[List.take_succ_eq_append_getElem (by rw[backs_len];exact hj)];simp[backs]
set_option maxRecDepth 100000 in
set_option maxHeartbeats 1000000 in
theorem back1_gives(B g m c:Nat)(t:TypeId)(ys:List ByteArray)(hm:ys.length=m)(hm2:m<1000000000)(C:List Value)(hC:∀(j:Nat) (x:ByteArray),ys[j]?=some x->C[j]?=some (Value.string x))(w:World)(hB:Blk w B 35 [.slice (some ⟨g,0,none⟩) m c])(hg:Blk w g t C):
  GivesAllK Fence.wide 4 Tryd.prog 97 #[.pointer (some ⟨B,0,none⟩)] pair (backs ⟨#[]⟩ ys) (fun k=>k=B∨k=g) w:=fun l J W hW hJ hY h0=>by
 have hBW:=hB.belowS hW;have hgW:=hg.belowS hW;have HM:=Lib.hid hm;have HC:=Lib.hid hC;clear hm hC hB hg;refine callsIn_of_wp Tryd.func97 rfl trivial ?_ rfl;simp only[Tryd.ntmps97,List.size_toArray,List.length_cons,List.length_nil,Nat.reduceAdd,Nat.reduceSub,Array.replicate_succ,Array.replicate_zero,List.push_toArray,List.append_toArray,List.nil_append,List.cons_append];have c00:W.cell? ⟨B,0,none⟩=some (.slice (some ⟨g,0,none⟩) m c):=hBW.cell rfl
 gi_wp2
 clear c00
 gi_loopw [3] (fun i wr=>∃j:Nat,j<=m∧i=.int .i64 ((m:Int) - 1 - (j:Int))∧J ((backs ⟨#[]⟩ ys).take j) wr∧Blk wr B 35 [.slice (some ⟨g,0,none⟩) m c]∧Blk wr g t C) (fun i wr=>(intOf i+1).toNat)
 case atStart=>exact⟨0,by omega,by simp,h0,hBW,hgW⟩
 case round=>
  clear hBW hgW;obtain⟨j,hj,rfl,hJj,hb0,hb1⟩:=hrel;have c0:wr.cell? ⟨B,0,none⟩=some (.slice (some ⟨g,0,none⟩) m c):=hb0.cell rfl
  by_cases hlt:j<m
  ·obtain⟨p,hp⟩:∃p,p=m - 1 - j:=⟨_,rfl⟩
   have ep:(m:Int) - 1 - (j:Int)=(p:Int):=by omega
   obtain⟨x,hx⟩:∃x,ys[p]?=some x:=⟨ys[p]'(by rw[HM.out];omega),List.getElem?_eq_getElem _⟩
   have cx:wr.cell? ⟨g,p,none⟩=some (.string x):=hb1.cell (HC.out p x hx);rw[ep];have p0:(0:Int)<=(p:Int):=by omega
   have d1:decide ((0:Int)<=(p:Int))=true:=decide_eq_true p0;have p1:(p:Int)<(m:Int):=by omega
   obtain⟨fn',tmps,assign,body,hy,hR⟩:=hY ((backs ⟨#[]⟩ ys).take j) (p,x) wr hJj (by
    have h1:=backs_step (⟨#[]⟩:ByteArray) ys j (by rw[HM.out];exact hlt);rw[HM.out, <-hp,show ys.getD p ⟨#[]⟩=x by simp[List.getD_eq_getElem?_getD,hx]] at h1;rw[<-h1];exact List.take_prefix _ _)
   dsimp only[pair] at hy
   have HP:=Lib.hid (And.intro hp (And.intro ep hx));clear hp ep hx
   gi_wp2
   refine hR.mono ?_
   rintro e W3 ⟨rfl,hJ3,hk3⟩
   have hb0':Blk W3 B 35 [.slice (some ⟨g,0,none⟩) m c]:=hb0.move (hk3 B (Or.inl rfl));have hb1':Blk W3 g t C:=hb1.move (hk3 g (Or.inr rfl))
   gi_wp2
   go_roundw
   case rel=>
    refine⟨j+1,by omega,by have:=HP.out.2.1;rw[<-this];first |(congr 1;omega) |(congr 1),?_,hb0',hb1'⟩;have h1:=backs_step (⟨#[]⟩:ByteArray) ys j (by rw[HM.out];exact hlt);rw[HM.out, <-HP.out.1,show ys.getD p ⟨#[]⟩=x by simp[List.getD_eq_getElem?_getD,HP.out.2.2]] at h1;rw[h1];exact hJ3
   case measure=>simp[intOf]
  ·obtain rfl:j=m:=by omega
   have d1:decide ((0:Int)<=(j:Int) - 1 - (j:Int))=false:=decide_eq_false (by omega);have e1:(j:Int) - 1 - (j:Int)= -1:=by omega
   rw[e1]
   gi_wp2
   go_end0
   refine⟨⟨_,rfl⟩,?_⟩;rw[List.take_of_length_le (by rw[backs_len,HM.out];exact Nat.le_refl _)] at hJj;exact hJj
end Go.Proofs.YtfdlmpicmkpabaaDoor.Ext
end
section
namespace Go.Proofs
open Go.Shelf
def YtfdlmpicmkpabaaDoorlen.lays125_ren:Go.Shelf.Ren:=⟨fun |125=>100 |128=>110 |129=>111 |n=>n,fun |46=>121 |3=>3 |51=>117 |53=>115 |4=>4 |5=>5 |9=>9 |n=>n,fun |n=>n⟩
theorem YtfdlmpicmkpabaaDoorlen.lays125:Go.Proofs.Lays.n125 Tryd.prog YtfdlmpicmkpabaaDoorlen.lays125_ren:={
 mixed:=by kernel_rfl
 f125:=Tryd.func100.trans (congrArg some (by kernel_rfl))
 f128:=Tryd.func110.trans (congrArg some (by kernel_rfl))
 f129:=Tryd.func111.trans (congrArg some (by kernel_rfl))
 t3:=Tryd.underlying3
 a3:=Tryd.isAgg3
 z3:=Tryd.sizeOf3
 v3:=Tryd.zeroValue3
 t4:=Tryd.underlying4
 a4:=Tryd.isAgg4
 z4:=Tryd.sizeOf4
 v4:=Tryd.zeroValue4
 t5:=Tryd.underlying5
 a5:=Tryd.isAgg5
 z5:=Tryd.sizeOf5
 v5:=Tryd.zeroValue5
 t9:=Tryd.underlying9
 a9:=Tryd.isAgg9
 z9:=Tryd.sizeOf9
 v9:=Tryd.zeroValue9
 t46:=Tryd.underlying121
 a46:=Tryd.isAgg121
 z46:=Tryd.sizeOf121
 v46:=Tryd.zeroValue121
 t51:=Tryd.underlying117
 a51:=Tryd.isAgg117
 z51:=Tryd.sizeOf117
 v51:=Tryd.zeroValue117
 t53:=Tryd.underlying115
 a53:=Tryd.isAgg115
 z53:=Tryd.sizeOf115
 v53:=Tryd.zeroValue115 }
theorem YtfdlmpicmkpabaaDoorlen.any(x:Int)(w:World)(h0:0<=x)(h1:x<=18446744073709551615):
  Calls Tryd.prog 100 #[.int .u64 x] w fun e w'=>e=.returned (.int .i64 (Lib.bitLen x.toNat))∧w'=w:=Any.bits_Len YtfdlmpicmkpabaaDoorlen.lays125 x w h0 h1
end Go.Proofs
end
section
namespace Go.Proofs.YtfdlmpicmkpabaaDoor.Ext
set_option maxRecDepth 100000
open Go.RowKit Go.Proofs.YtfdlmpicmkpabaaDoorW.PrintWords
theorem bitLen_aux(f:Nat):∀n:Nat,0<n->n<2 ^ f->Lib.bitLenAux f n=Nat.log2 n+1:=by
 induction f with
 |zero=>intro n h h2;simp at h2;omega
 |succ f ih=>
  intro n h h2;rw[Lib.bitLenAux,if_neg (by omega)]
  by_cases h1:n=1
  ·subst h1
   cases f with
   |zero=>rfl
   |succ f=>simp[Lib.bitLenAux];decide
  ·rw[ih (n / 2) (by omega) (by rw[Nat.pow_succ] at h2;omega)];rw[Nat.log2_def n,if_pos (by omega)];omega
theorem bitLen_log(n:Nat)(h:0<n)(h2:n<18446744073709551616):Lib.bitLen n=Nat.log2 n+1:=bitLen_aux 64 n h h2
set_option maxHeartbeats 1000000 in
theorem left_walk(n:Nat)(h2:2<=n)(hn:n<=9223372036854775807)(w:World):
  Calls Tryd.prog 84 #[.int .i64 (n:Int)] w fun e w'=>e=.returned (.int .i64 ((Tree.left n:Nat):Int))∧w'=w:=by
 have hl:Nat.log2 (n - 1)<63:=by
  rw[Nat.log2_lt (by omega)];omega
 have hb:=bitLen_log (n - 1) (by omega) (by omega);obtain⟨k,hk⟩:∃k,Nat.log2 (n - 1)=k:=⟨_,rfl⟩
 rw[hk] at hb hl;have e1:IntKind.u64.wrap ((n:Int) - 1)=((n - 1:Nat):Int):=by rw[IntKind.wrap_u64];omega
 have e2:(((n - 1:Nat):Int)).toNat=n - 1:=by omega
 have HB:=Lib.hid hb;have HK:=Lib.hid hk;clear hb hk
 go_enter Tryd.func84,Tryd.ntmps84
 have hs:Tree.left n=2 ^ k:=by unfold Tree.left;rw[HK.out]
 go_wp2_with (first |(go_at_call 100;refine (YtfdlmpicmkpabaaDoorlen.any _ _ (by omega) (by omega)).mono ?_;rintro e w' ⟨he,rfl⟩;rw[e2,HB.out] at he;subst he) |fail)
 go_ret
 have hp:(2:Nat) ^ k<2 ^ 63:=Nat.pow_lt_pow_right (by decide) hl;have hp2:(2:Int) ^ k=((2 ^ k:Nat):Int):=by simp
 refine⟨?_,rfl⟩;rw[hs]
 show Ending.returned (.int .i64 (wrap64 ((2:Int) ^ k)))=_
 rw[hp2];have hw:wrap64 ((2 ^ k:Nat):Int)=((2 ^ k:Nat):Int):=by
  generalize (2:Nat) ^ k=z at*
  unfold wrap64;omega
 rw[hw]
end Go.Proofs.YtfdlmpicmkpabaaDoor.Ext
end
