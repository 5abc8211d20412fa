import Derived.Test.YtfdlmpicmkpabaaDoorMLogbookDecodesac
import Derived.Deep.AppendSrc
import Derived.Laws.AppendOwn
import Derived.Lib.ConvBytes
/-
  Texts of this claim, one behind the other: what they prove stands above each.
-/
set_option linter.unusedVariables false
set_option linter.unusedSimpArgs false
section
namespace Go.Proofs.YtfdlmpicmkpabaaDoor.Ext
set_option maxRecDepth 100000
open Go.RowKit
def str(l:List Nat):ByteArray:=⟨(l.map UInt8.ofNat).toArray⟩
def nat(s:ByteArray):List Nat:=s.data.toList.map UInt8.toNat
theorem nat_length(s:ByteArray):(nat s).length=s.size:=by simp[nat]
theorem nat_lt(s:ByteArray):∀b ∈ nat s,b<256:=by
 intro b hb;simp only[nat,List.mem_map] at hb;obtain⟨x,_,rfl⟩:=hb;exact x.toNat_lt
theorem nat_str(l:List Nat)(h:∀b ∈ l,b<256):nat (str l)=l:=by
 unfold str nat;simp only[List.map_map];refine (List.map_congr_left (g:=id) fun x hx=>?_).trans (List.map_id _);have:=h x hx;simp;omega
def Buf(w:World)(base:Nat)(v:Value)(l:List Nat):Prop:=
 ∃g c:Nat,v=.slice (some ⟨g,0,none⟩) l.length c∧base<=g∧g<w.heap.size∧l.length<=c∧c<=maxLen∧(∀j:Nat,j<l.length->w.cell? ⟨g,j,none⟩=some (.int .u8 ((l.getD j 0:Nat):Int)))∧(∀j:Nat,j<c->(w.cell? ⟨g,j,none⟩).isSome=true∧w.frozen? ⟨g,j,none⟩=false)
theorem Buf.below{w w':World}{base:Nat}{v:Value}{l:List Nat}(h:Buf w base v l)(hb:Below w.heap.size w w'):Buf w' base v l:=by
 obtain⟨g,c,h1,h2,h3,h4,h5,h6,h7⟩:=h;exact⟨g,c,h1,h2,Nat.lt_of_lt_of_le h3 hb.size,h4,h5,fun j hj=>(hb.cell (p:=⟨g,j,none⟩) h3).trans (h6 j hj),fun j hj=>by rw[hb.cell (p:=⟨g,j,none⟩) h3,hb.frozen (p:=⟨g,j,none⟩) h3];exact h7 j hj⟩
theorem Buf.alloc{w:World}{base:Nat}{v:Value}{l:List Nat}(h:Buf w base v l)(o:Obj):Buf (w.alloc o) base v l:=h.below ((Below.refl _ _).alloc (Nat.le_refl _) o)
theorem run_append_buf{P:Program}{w:World}(t ty e:TypeId)(i:TypeInfo)(ht:P.underlying t=some (.slice e))(hi:P.info? e=some i)(hz:i.zero=some (.int .u8 0))(hs:i.size=1)(hby:i.bytes=1)
  (base:Nat) (v:Value) (l:List Nat) (hv:Buf w base v l) (hbase:base<=w.heap.size) (ad:Addr) (y cx:Nat) (hy:w.cell? ad=some (.int .u8 (y:Int))) (hl:l.length<140737488355327):
  ∃v' w',(Builtin.append_ #[t,t] ty #[v,.slice (some ad) 1 cx]).run P w=.ok v' w'∧Buf w' base v' (l++[y])∧Below base w w':=by
 obtain⟨g,c,rfl,h2,h3,h4,h5,h6,h7⟩:=hv;have ha0:∀a:Addr,a.add 0=a:=fun a=>by cases a;simp[Addr.add]
 have hnews:∀j u,[Value.int .u8 (y:Int)][j]?=some u->w.cell? (ad.add j)=some u:=by
  intro j u hj
  match j,hj with
  |0,hj=>simp at hj;subst hj;rw[ha0];exact hy
  |j+1,hj=>simp at hj
 by_cases hc:l.length+1<=c
 ·have hsrc:Src P i.size t (.slice (some ad) 1 cx) 1 [Value.int .u8 (y:Int)] w:=by
   rw[hs];exact⟨Or.inl ⟨e,ht⟩,fun w'=>by simp[Builtin.lenOf],run_firstCells_some w 1 1 ad 1 cx _ rfl hnews,run_firstCells_some w.drew 1 1 ad 1 cx _ rfl hnews,rfl,by simp[Value.oneCell']⟩
  have hrun:=run_append_room_src w t t ty e i ht hi g 0 l.length c (.slice (some ad) 1 cx) 1 _ hsrc hc
   (fun j hj=>by rw[hs];simp at hj;subst hj;simpa using (h7 l.length (by omega)).1) (fun j hj=>by rw[hs];simp at hj;subst hj;simpa using (h7 l.length (by omega)).2)
  refine⟨_,_,hrun,?_,?_⟩
  ·rw[hs];simp only[Nat.mul_one,Nat.zero_add,World.setCells];obtain⟨u,hu⟩:=Option.isSome_iff_exists.1 (h7 l.length (by omega)).1;refine⟨g,c,by simp,h2,by simpa [World.setCell] using h3,by simp;omega,h5,?_,?_⟩
   ·intro j hj;simp only[List.length_append,List.length_singleton] at hj
    by_cases e:j=l.length
    ·subst e;rw[World.cell?_setCell_same _ _ _ hu];simp[List.getD_eq_getElem?_getD]
    ·rw[off_set e (h6 j (by omega))];simp[List.getD_eq_getElem?_getD,List.getElem?_append_left (show j<l.length by omega)]
   ·intro j hj;refine⟨?_,by rw[World.frozen?_setCell];exact (h7 j hj).2⟩
    by_cases e:j=l.length
    ·subst e;rw[World.cell?_setCell_same _ _ _ hu];rfl
    ·obtain⟨u',hu'⟩:=Option.isSome_iff_exists.1 (h7 j hj).1;rw[off_set e hu'];rfl
  ·exact below_setCells h2 _ _ _ (Below.refl _ _)
 ·have hrun:=run_append_grow w t ty e i (.int .u8 0) ht hi hz ⟨g,0,none⟩ l.length c (nums .u8 l) (by rw[hs,nums_len];omega)
   (fun j u hj=>by
    have hjl:j<l.length:=by have:=(List.getElem?_eq_some_iff.1 hj).1;rw[nums_len] at this;exact this
    rw[Addr.add_mid,Nat.zero_add,h6 j hjl, <-hj,nums_get hjl])
   ad 1 cx [Value.int .u8 (y:Int)] (by rw[hs];rfl) hnews (by omega) (by omega)
   (by rw[hby];exact growslice_fits (by omega) (by omega))
  have hge:=grownCap_ge w (l.length+1) c e;have hml:=grownCap_le_maxLen w (l.length+1) c e (by unfold maxLen;omega);generalize hk:grownCap w (l.length+1) c e=k at*
  refine⟨_,_,hrun,⟨w.heap.size,k,by simp,hbase,by simp,by simpa using hge,hml,?_,?_⟩,?_⟩
  ·intro j hj;refine c_new _ _ _ _ _ _ ?_ rfl;simp only[List.length_append,List.length_singleton] at hj;rw[Array.append_assoc,Array.getElem?_append];simp only[List.size_toArray,nums_len]
   by_cases e:j=l.length
   ·subst e;rw[if_neg (by omega),Nat.sub_self,Array.getElem?_append,if_pos (by simp)];simp[List.getD_eq_getElem?_getD]
   ·rw[if_pos (by omega)];simp only[List.getElem?_toArray];rw[nums_get (by omega)];simp[List.getD_eq_getElem?_getD,List.getElem?_append_left (show j<l.length by omega)]
  ·intro j hj;refine⟨?_,World.frozen?_alloc_new _ _ _ _⟩;rw[show (⟨w.heap.size,j,none⟩:Addr)=⟨w.drew.heap.size,j,none⟩ from rfl,World.cell?_alloc_new,Array.getElem?_eq_getElem]
   ·rfl
   ·simp[nums,size_zeroCells,Value.cells];omega
  ·exact (Below.refl _ _).drew.alloc hbase _
theorem wpList_append_buf{P:Program}{w:World}{ops:Array Oper}{rest:List Oper}{o:Oper}{a:Act}{Q:Exit->Act->World->Prop}(hgd:o.guard=none)(s x:Operand)(t:TypeId)
  (ho:o.op=.call { callee:=.builtin .append,args:= #[s,x],argTypes:= #[t,t] })
  (e:TypeId) (i:TypeInfo) (ht:P.underlying t=some (.slice e)) (hi:P.info? e=some i) (hz:i.zero=some (.int .u8 0)) (hs:i.size=1) (hby:i.bytes=1)
  (base:Nat) (v:Value) (l:List Nat) (hsv:a.eval s=v) (hv:Buf w base v l) (hbase:base<=w.heap.size) (ad:Addr) (y cx:Nat) (hx:a.eval x=.slice (some ad) 1 cx) (hy:w.cell? ad=some (.int .u8 (y:Int))) (hl:l.length<140737488355327)
  (h:∀v' w',Buf w' base v' (l++[y])->Below base w w'->wpList P ops Q rest (a.put o.dst v') w'):wpList P ops Q (o::rest) a w:=by
 obtain⟨v',w',hrun,h1,h2⟩:=run_append_buf (P:=P) t o.type e i ht hi hz hs hby base v l hv hbase ad y cx hy hl;refine wpList_plain hgd fun K hK=>?_
 unfold Oper.wp execOp;simp only[ho,resolve,invoke,builtin,Sem.run_bind,Sem.run_pure,Result.andThen_ok,List.map_toArray,List.map_cons,List.map_nil,hsv,hx,hrun];exact hK _ _ (h v' w' h1 h2)
theorem buf_string(w:World)(e:TypeId)(s:ByteArray)(hs:s.size<=maxLen):Buf (Lib.bytesWorld w e s) w.heap.size (.slice (some ⟨w.heap.size,0,none⟩) s.size (grownCap w s.size 0 e)) (nat s):=by
 refine⟨w.heap.size,grownCap w s.size 0 e,by rw[nat_length],Nat.le_refl _,by rw[Lib.bytesWorld_size];omega,by rw[nat_length];exact grownCap_ge _ _ _ _,grownCap_le_maxLen _ _ _ _ hs,?_,?_⟩
 ·intro j hj;rw[nat_length] at hj;rw[Lib.bytesWorld_cell w e s j hj];have:j<s.data.toList.length:=by simpa using hj
  simp[nat,List.getD_eq_getElem?_getD,List.getElem?_eq_getElem this]
 ·intro j hj;have h1:=Lib.bytesWorld_at_new w e s;have h2:j<(Lib.bytesCells w e s).size:=by
   have:=grownCap_ge w s.size 0 e;simp[Lib.bytesCells];omega
  refine⟨?_,?_⟩
  ·simp[World.cell?,h1,h2]
  ·simp[World.frozen?,h1];omega
theorem bytes_below0(w:World)(e:TypeId)(s:ByteArray):Below w.heap.size w (Lib.bytesWorld w e s):=⟨rfl,rfl,rfl,by rw[Lib.bytesWorld_size];omega,fun k hk=>Lib.bytesWorld_at_old w e s k hk⟩
theorem wpList_conv_buf{P:Program}{w:World}{ops:Array Oper}{rest:List Oper}{o:Oper}{a:Act}{Q:Exit->Act->World->Prop}(hgd:o.guard=none)(src dst e:TypeId)(x:Operand)(ho:o.op=.convert src dst x)
  {u:TypeDesc} (hs:P.underlying src=some u) (hd:P.underlying dst=some (.slice e)) (he:P.underlying e=some (.int .u8)) (s:ByteArray) (hx:a.eval x=.string s) (hsz:s.size<=maxLen)
  (h:∀v w',Buf w' w.heap.size v (nat s)->Below w.heap.size w w'->w'.heap.size=w.heap.size+1->wpList P ops Q rest (a.put o.dst v) w'):wpList P ops Q (o::rest) a w:=by
 have hrun:=Lib.run_convert_string_bytes (P:=P) w src dst e s hs hd he;refine wpList_plain hgd fun K hK=>?_
 unfold Oper.wp execOp;simp only[ho,Sem.run_bind,Sem.run_pure,Result.andThen_ok,hx,hrun];exact hK _ _ (h _ _ (buf_string w e s hsz) (bytes_below0 w e s) (Lib.bytesWorld_size w e s))
end Go.Proofs.YtfdlmpicmkpabaaDoor.Ext
end
