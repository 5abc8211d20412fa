import Derived.Test.YtfdlmpicmkpabaaDoorMLogbookDecodesbc
import Derived.Test.YtfdlmpicmkpabaaDoorMLogbookDecodesbd
/-
  Texts of this claim, one behind the other: what they prove stands above each.
-/
set_option linter.unusedVariables false
set_option linter.unusedSimpArgs false
section
namespace Go.Proofs.YtfdlmpicmkpabaaDoor.Ext
set_option maxRecDepth 100000
open Go.RowKit Go.Proofs.YtfdlmpicmkpabaaDoorW.PrintWords Go.Proofs.YtfdlmpicmkpabaaDoorW.PrintLast Go.Proofs.YtfdlmpicmkpabaaDoorW.PrintMore
attribute [local go_sem ↓] Go.wp_at_zero Go.wp_at_succ
def hash(s:ByteArray):ByteArray:=str (Sha.sha (nat s))
theorem ba_ext{a b:ByteArray}(h:a.data.toList=b.data.toList):a=b:=by
 cases a;cases b
 simpa using h
theorem ba_app(a b:ByteArray):(a++b).data.toList=a.data.toList++b.data.toList:=by
 rw[ByteArray.data_append,Array.toList_append]
theorem join_nothing(l:List ByteArray):(⟨(Lib.join (l.map (·.data.toList)) (⟨#[]⟩:ByteArray).data.toList).toArray⟩:ByteArray)=l.foldr (fun a b=>a++b) ⟨#[]⟩:=by
 apply ba_ext
 show Lib.join (l.map (·.data.toList)) []=_
 induction l with
 |nil=>rfl
 |cons a l ih=>
  rw[List.foldr_cons,ba_app, <-ih]
  cases l with
  |nil=>simp[Lib.join]
  |cons b l=>simp[Lib.join]
set_option maxRecDepth 100000 in
set_option maxHeartbeats 1000000 in
theorem marked1_walk(g B:Nat)(c:Nat)(xs:List ByteArray)(mark:ByteArray)(w:World)(hG:GL w)(hB:w.cell? ⟨B,0,none⟩=some (.string mark))(hx:∀(j:Nat) x,xs[j]?=some x->w.cell? ⟨g,0+j,none⟩=some (.string x))(hg:g<w.heap.size)(hc:xs.length<=c)(hN:xs.length<=140737488355328)
  (hlen:(Lib.join (xs.map (·.data.toList)) (⟨#[]⟩:ByteArray).data.toList).length<=140737488349000) (hm:mark.size<=1):
  Calls Tryd.prog 104 #[.slice (some ⟨g,0,none⟩) xs.length c,.pointer (some ⟨B,0,none⟩)] w fun e w'=>e=.returned (.string (hash (mark++xs.foldr (fun a b=>a++b) ⟨#[]⟩)))∧Below w.heap.size w w':=by
 go_enter Tryd.func104,Tryd.ntmps104
 go_wp2
 obtain⟨n,hn⟩:∃n,xs.length=n:=⟨_,rfl⟩
 have hj:=join_nothing xs;have HJ:=Lib.hid hj;clear hj;have hJ:=fun W hW=>YtfdlmpicmkpabaaDoorjoin.any g 0 c xs ⟨#[]⟩ W hW
 have HC:=Lib.hid hJ;clear hJ;have HX:=Lib.hid hx;have HN:=Lib.hid hn;have HG:=Lib.hid hG;have hsz:(mark++xs.foldr (fun a b=>a++b) ⟨#[]⟩).size<=140737488350000:=by
  have h3:(xs.foldr (fun a b=>a++b) (⟨#[]⟩:ByteArray)).size<=140737488349000:=by rw[<-HJ.out];simpa [ByteArray.size] using hlen
  rw[ByteArray.size_append];omega
 have hBl:B<w.heap.size:=World.block_lt_of_cell? w _ hB;obtain⟨J,hJ⟩:∃J,xs.foldr (fun a b=>a++b) ⟨#[]⟩=J:=⟨_,rfl⟩
 rw[hJ] at hsz;have hcat:mark.size+J.size<=9223372036854775807:=by rw[ByteArray.size_append] at hsz;omega
 have hcat2:(9223372036854775807<mark.size+J.size)=False:=eq_false (Nat.not_lt.2 hcat);have hcat3:decide (mark.size+J.size<=9223372036854775807)=true:=decide_eq_true hcat;have HJJ:=Lib.hid hJ;clear hx hn hG hJ;have hq:=HC.out w.drew HX.out hg hN hc (Nat.le_trans hlen (by decide));rw[HJ.out,HJJ.out] at hq;have HQ:=Lib.hid hq;clear hq
 go_region_held3 (fun w'=>w'.cell? ⟨B,0,none⟩=some (.string mark)) (first |exact hB |exact (hb1.cell (p:=⟨B,0,none⟩) hBl).trans hB |exact (hb2.cell (p:=⟨B,0,none⟩) (Nat.lt_of_lt_of_le hBl hb1.size)).trans ((hb1.cell (p:=⟨B,0,none⟩) hBl).trans hB) |fail) (first |(go_at_call 105;refine (HQ.out).mono ?_;rintro e w1 ⟨rfl,hb1⟩) |(go_at_call 79;refine (Sum_walk _ hsz _ (GL.below (w:=w.drew) HG.out hb1)).mono ?_;rintro e w2 ⟨rfl,hb2⟩) |fail)
 go_wp2
 go_ret
 refine⟨by rw[HJJ.out];rfl,?_⟩;exact Below.trans (b:=w1) ⟨hb1.os,hb1.tape,hb1.output,hb1.size,hb1.block⟩ (hb2.mono hb1.size)
theorem marked_walk(mark:ByteArray)(w:World):
  Calls Tryd.prog 93 #[.string mark] w fun e w'=>e=.returned (.func (.func 104) #[] #[.pointer (some ⟨w.heap.size,0,none⟩)])∧w'=w.alloc (.cells #[.string mark] 9):=by
 go_enter Tryd.func93,Tryd.ntmps93
 go_wp2
 go_ret
 exact⟨rfl,rfl⟩
theorem strs_new(W:World)(c:Array Value)(t:TypeId)(n:Nat)(xs:List ByteArray)(hc:c=(xs.map Value.string).toArray)(hn:W.heap.size=n):∀(j:Nat) x,xs[j]?=some x->(W.alloc (.cells c t)).cell? ⟨n,0+j,none⟩=some (.string x):=by
 intro j x hj;subst hc;rw[Nat.zero_add];exact c_new _ _ _ _ _ _ (by simp[hj]) hn
theorem ba_nil(a:ByteArray):a++(⟨#[]⟩:ByteArray)=a:=by
 apply ba_ext
 rw[ba_app];simp
set_option maxRecDepth 100000 in
set_option maxHeartbeats 1000000 in
theorem Leaf_walk(s:ByteArray)(hsz:s.size<=140737488349000)(w:World)(hG:GL w):
  Calls Tryd.prog 78 #[.string s] w fun e w'=>e=.returned (.string (hash (⟨#[0]⟩++s)))∧Below w.heap.size w w':=by
 have HG:=Lib.hid hG;clear hG;have hj:(Lib.join ([s].map (·.data.toList)) (⟨#[]⟩:ByteArray).data.toList).length<=140737488349000:=by
  have h1:=congrArg ByteArray.size (join_nothing [s]);have h2:([s].foldr (fun a b=>a++b) (⟨#[]⟩:ByteArray)).size<=140737488349000:=by
   simp only[List.foldr_cons,List.foldr_nil,ByteArray.size_append];have h0:(⟨#[]⟩:ByteArray).size=0:=rfl;omega
  rw[<-h1] at h2
  simpa [ByteArray.size] using h2
 go_enter Tryd.func78,Tryd.ntmps78
 go_wp2_with (first |(go_at_call 93;refine (marked_walk ⟨#[0]⟩ _).mono ?_;rintro e w' ⟨rfl,rfl⟩) |(go_at_call 104;refine (marked1_walk _ _ 1 [s] ⟨#[0]⟩ _ (HG.out.below (((Below.refl _ _).alloc (Nat.le_refl _) _).alloc (by simp) _)) (c_old (c_new _ _ _ _ _ _ rfl rfl)) (strs_new _ _ _ _ [s] rfl (by simp)) (by simp) (by simp) (by simp) hj (by decide)).mono ?_;rintro e w2 ⟨rfl,hb2⟩) |fail)
 go_ret
 refine⟨?_,Below.trans (((Below.refl _ _).alloc (Nat.le_refl _) _).alloc (by simp) _) (hb2.mono (by simp;omega))⟩
 show Ending.returned (.string (hash (⟨#[0]⟩++[s].foldr (fun a b=>a++b) ⟨#[]⟩)))=_
 simp only[List.foldr_cons,List.foldr_nil];rw[ba_nil]
set_option maxRecDepth 100000 in
set_option maxHeartbeats 1000000 in
theorem Node_walk(a b:ByteArray)(hsz:a.size+b.size<=140737488349000)(w:World)(hG:GL w):
  Calls Tryd.prog 77 #[.string a,.string b] w fun e w'=>e=.returned (.string (hash (⟨#[1]⟩++(a++b))))∧Below w.heap.size w w':=by
 have HG:=Lib.hid hG;clear hG;have hj:(Lib.join ([a,b].map (·.data.toList)) (⟨#[]⟩:ByteArray).data.toList).length<=140737488349000:=by
  have h1:=congrArg ByteArray.size (join_nothing [a,b]);have h2:([a,b].foldr (fun a b=>a++b) (⟨#[]⟩:ByteArray)).size<=140737488349000:=by
   simp only[List.foldr_cons,List.foldr_nil,ByteArray.size_append];have h0:(⟨#[]⟩:ByteArray).size=0:=rfl;omega
  rw[<-h1] at h2
  simpa [ByteArray.size] using h2
 go_enter Tryd.func77,Tryd.ntmps77
 go_wp2_with (first |(go_at_call 93;refine (marked_walk ⟨#[1]⟩ _).mono ?_;rintro e w' ⟨rfl,rfl⟩) |(go_at_call 104;refine (marked1_walk _ _ 2 [a,b] ⟨#[1]⟩ _ (HG.out.below (((Below.refl _ _).alloc (Nat.le_refl _) _).alloc (by simp) _)) (c_old (c_new _ _ _ _ _ _ rfl rfl)) (strs_new _ _ _ _ [a,b] rfl (by simp)) (by simp) (by simp) (by simp) hj (by decide)).mono ?_;rintro e w2 ⟨rfl,hb2⟩) |fail)
 go_ret
 refine⟨?_,Below.trans (((Below.refl _ _).alloc (Nat.le_refl _) _).alloc (by simp) _) (hb2.mono (by simp;omega))⟩
 show Ending.returned (.string (hash (⟨#[1]⟩++[a,b].foldr (fun a b=>a++b) ⟨#[]⟩)))=_
 simp only[List.foldr_cons,List.foldr_nil];rw[ba_nil]
end Go.Proofs.YtfdlmpicmkpabaaDoor.Ext
end
