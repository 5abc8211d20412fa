import Derived.Test.YtfdlmpicmkpabaaDoorMLogbookDecodesbh
/-
  Texts of this claim, one behind the other: what they prove stands above each.
-/
set_option linter.unusedVariables false
set_option linter.unusedSimpArgs false
section
namespace Go.Proofs.YtfdlmpicmkpabaaDoor.Ext
set_option maxRecDepth 100000
open Go.RowKit Go.Shelf Go.Proofs.YtfdlmpicmkpabaaDoorW.PrintWords Go.Proofs.YtfdlmpicmkpabaaDoorW.PrintLast Go.Proofs.YtfdlmpicmkpabaaDoorW.PrintMore
attribute [local go_sem] Oper.semAt_some
def contentOf(st n:Int)(root:ByteArray):ByteArray:=str (encL [st,n])++root
def tagOf(key:ByteArray)(st n:Int)(root:ByteArray):ByteArray:=dN key (dL (contentOf st n root))
theorem two_ok{st n:Int}(h1:0<=st∧st<=99)(h2:0<=n∧n<=60):[st,n].all encOk=true:=by
 simp only[List.all_cons,List.all_nil,Bool.and_true,Bool.and_eq_true,encOk,decide_eq_true_eq];omega
theorem tag_walk(key:ByteArray)(st n:Int)(root:ByteArray)(hk:key.size=32)(hr:root.size=32)(hst:0<=st∧st<=99)(hn:0<=n∧n<=60)(w:World)(hG:GL w):
  Calls Tryd.prog 47 #[.string key,.int .i64 st,.int .i64 n,.string root] w fun e w'=>e=.returned (.string (tagOf key st n root))∧Below w.heap.size w w':=by
 have hok:=two_ok hst hn;have hle:=enc_len _ hok;simp only[List.length_cons,List.length_nil] at hle;have hb1:=(Below.refl w.heap.size w).alloc (Nat.le_refl _) (.cells #[.pointer none,.slice none 0 0] 87);have hw1:Wr w.heap.size w.heap.size (u8s ([]++encL [])) (w.alloc (.cells #[.pointer none,.slice none 0 0] 87)):=Wr.new w w.heap.size w.heap.size (Nat.le_refl _) rfl;have hs1:(w.alloc (.cells #[.pointer none,.slice none 0 0] 87)).heap.size=w.heap.size+1:=by simp
 have hw2:=hw1.below ((Below.refl _ _).alloc (Nat.le_refl _) (.cells #[.int .i64 st,.int .i64 n] 3));have hb2:=hb1.alloc hb1.size (.cells #[.int .i64 st,.int .i64 n] 3);have hN:Blk ((w.alloc (.cells #[.pointer none,.slice none 0 0] 87)).alloc (.cells #[.int .i64 st,.int .i64 n] 3)) (w.heap.size+1) 3 ([st,n].map (Value.int .i64)):=by
  have:=Blk.newA (w.alloc (.cells #[.pointer none,.slice none 0 0] 87)) 3 #[.int .i64 st,.int .i64 n] ([st,n].map (Value.int .i64)) rfl
  rwa [hs1] at this
 have HNUM:=Lib.hid (numbers_walk w.heap.size w.heap.size (w.heap.size+1) [] (by simp) 2 [st,n] 2 rfl (by decide) hok _ hw2 hN hb2.size (by omega));have HB2:=Lib.hid hb2;have HG0:=Lib.hid hG;have hlen:(u8s ([]++encL [st,n])).length+root.size<=140737488355328:=by rw[len_u8,List.nil_append];omega
 have hne:u8s ([]++encL [st,n])++root.data.toList≠[]:=by
  intro h;have h:=congrArg List.length h;rw[List.length_append,len_u8,List.nil_append,List.length_nil] at h;have:root.data.toList.length=32:=by rw[Array.length_toList];exact hr
  omega
 have hcont:(⟨(u8s ([]++encL [st,n])++root.data.toList).toArray⟩:ByteArray)=contentOf st n root:=by
  unfold contentOf;have h:∀x y:ByteArray,x.data.toList=y.data.toList->x=y:=fun x y h=>by
   cases x;cases y;congr 1;exact Array.toList_inj.1 h
  refine h _ _ ?_;rw[ba_data];simp[str,u8s]
 have hcs:(contentOf st n root).size<=100:=by
  unfold contentOf;rw[ByteArray.size_append,str_size,hr];omega
 have hls:(dL (contentOf st n root)).size=32:=hash_size _;have HL:=Lib.hid (fun W hW=>digest_Leaf.calls (contentOf st n root) (dL (contentOf st n root)) W hW (by unfold digest_Leaf.f;rw[if_pos (by omega)]));have HND:=Lib.hid (fun W hW=>digest_Node.calls key (dL (contentOf st n root)) (tagOf key st n root) W hW (by unfold digest_Node.f;rw[if_pos (by rw[hls,hk];omega)];rfl));have HLEN:=Lib.hid hlen;have HNE:=Lib.hid hne;have HCT:=Lib.hid hcont;clear hw1 hs1 hb1 hw2 hb2 hN hok hle hlen hne hcont hcs hls hG hk hr hst hn
 go_enter Tryd.func47,Tryd.ntmps47
 go_wp2_with (first |(go_at_call 52;(with_reducible refine HNUM.out.mono ?_);rintro e w5 ⟨rfl,hw5,hb5⟩;have HW5:=Lib.hid hw5;have HB5:=Lib.hid (Below.trans HB2.out (hb5.mono (Nat.le_refl _)));clear hw5) |(go_at_call 54;(with_reducible refine (write_walk w.heap.size w.heap.size _ root w5 HW5.out HLEN.out HB5.out.size).mono ?_);rintro e w6 ⟨rfl,hw6,hb6,hk6⟩;have HW6:=Lib.hid hw6.wr;have HB6:=Lib.hid (Below.trans HB5.out hb6);clear hw6 hk6) |fail)
 refine (string_walk w.heap.size w.heap.size _ w6 HW6.out HNE.out).mono ?_
 rintro e w7 ⟨rfl,hb7⟩
 rw[HCT.out];have HB7:=Lib.hid (Below.trans HB6.out hb7);have HG7:=Lib.hid (HG0.out.below HB7.out)
 go_wp2_with (first |(go_at_call 78;(with_reducible refine (HL.out _ HG7.out).mono ?_);rintro e w8 ⟨rfl,hb8⟩;have HG8:=Lib.hid (HG7.out.below hb8)) |(go_at_call 77;(with_reducible refine (HND.out _ HG8.out).mono ?_);rintro e w9 ⟨rfl,hb9⟩) |fail)
 go_ret
 exact⟨rfl,Below.trans HB7.out (Below.trans (hb8.mono HB7.out.size) (hb9.mono (Nat.le_trans HB7.out.size hb8.size)))⟩
def signF(key:ByteArray)(st:Int)(rs:List Rec):ByteArray × Int:=if validB st rs&&decide (key.size=32) then (tagOf key st (rs.length:Int) (rootOf rs),0) else (⟨#[]⟩,350)
set_option maxHeartbeats 1000000 in
theorem sign_walk(key:ByteArray)(st:Int)(A:Option Addr)(n c:Nat)(rs:List Rec)(hl:rs.length=n)(w:World)(hG:GL w)(hC:Kd.C kRec w A n rs)(hc:n<=c)(hn:n<=1000000)(hks:key.size<=140737488351232):
  Calls Tryd.prog 12 #[.string key,.agg #[.int .i64 st,.slice A n c]] w fun e w'=>e=.returned (.tuple #[.string (signF key st rs).1,.int .i64 (signF key st rs).2])∧Below w.heap.size w w':=by
 have hb:=(Below.refl w.heap.size w).alloc (Nat.le_refl _) (.cells #[.int .i64 st,.slice A n c] 26);have hx:=Blk.newA w 26 #[.int .i64 st,.slice A n c] [.int .i64 st,.slice A n c] rfl;have HG:=Lib.hid (hG.below hb);have HX:=Lib.hid hx;have HB:=Lib.hid hb;have HW:=Lib.hid (head_walk st A n c rs hl _ (hG.below hb) (Kd.C_below hC hb) hc hn);obtain⟨q1,q2,hq⟩:∃q1 q2,signF key st rs=(q1,q2):=⟨_,_,rfl⟩
 rw[hq];have HQ:=Lib.hid hq
 cases hv:validB st rs with
 |false=>
  have hF:headF st rs=(⟨#[]⟩,350):=by unfold headF;rw[hv];rfl
  have hS:(q1,q2)=((⟨#[]⟩:ByteArray),(350:Int)):=by rw[<-hq];unfold signF;rw[hv];rfl
  injection hS with e1 e2
  subst e1 e2;rw[hF] at HW;clear hv hF hG hb hC hq hx
  go_enter Tryd.func12,Tryd.ntmps12
  go_wp2_with (first |(go_at_call 13;(with_reducible refine HW.out.mono ?_);rintro e w2 ⟨rfl,hb2⟩) |fail)
  go_ret2
  exact⟨rfl,Below.trans HB.out (hb2.mono HB.out.size)⟩
 |true=>
  have hF:headF st rs=(rootOf rs,0):=by unfold headF;rw[hv];rfl
  rw[hF] at HW
  by_cases hk:key.size=32
  ·have hS:(q1,q2)=(tagOf key st (rs.length:Int) (rootOf rs),(0:Int)):=by rw[<-hq];unfold signF;rw[hv,decide_eq_true hk];rfl
   injection hS with e1 e2
   subst e1 e2;have hva:=valid_all hv;have hki:(key.size:Int)=32:=by omega
   have HTG:=Lib.hid (fun W hW=>tag_walk key st (rs.length:Int) (rootOf rs) hk (root_size _) (by omega) (by omega) W hW);rw[hl] at HTG ⊢;clear hv hF hG hb hC hq hx hva;have e1:((key.size:Int) !=32)=false:=by rw[hki];rfl
   go_enter Tryd.func12,Tryd.ntmps12
   go_upto_region 4 with (first |(go_at_call 13;(with_reducible refine HW.out.mono ?_);rintro e w2 ⟨rfl,hb2⟩) |fail)
   have x0:=(HX.out.belowS hb2).cell (j:=0) rfl;have x1:=(HX.out.belowS hb2).cell (j:=1) rfl;have HG2:=Lib.hid (HG.out.below hb2)
   go_wp2_with (first |(go_at_call 47;(with_reducible refine (HTG.out _ HG2.out).mono ?_);rintro e w3 ⟨rfl,hb3⟩) |fail)
   go_ret2
   exact⟨rfl,Below.trans HB.out (Below.trans (hb2.mono HB.out.size) (hb3.mono (Nat.le_trans HB.out.size hb2.size)))⟩
  ·have hS:(q1,q2)=((⟨#[]⟩:ByteArray),(350:Int)):=by rw[<-hq];unfold signF;rw[hv,decide_eq_false hk];rfl
   injection hS with e1 e2
   subst e1 e2;have hki:¬(key.size:Int)=32:=by omega
   have e1:((key.size:Int) !=32)=true:=by simpa using hki
   clear hv hF hG hb hC hq hx
   go_enter Tryd.func12,Tryd.ntmps12
   go_wp2_with (first |(go_at_call 13;(with_reducible refine HW.out.mono ?_);rintro e w2 ⟨rfl,hb2⟩) |fail)
   go_ret2
   exact⟨rfl,Below.trans HB.out (hb2.mono HB.out.size)⟩
theorem isIn_walk(a b c:Int)(w:World):Calls Tryd.prog 50 #[.int .i64 a,.int .i64 b,.int .i64 c] w fun e w'=>e=.returned (.bool (decide (b<=a∧a<=c)))∧Below w.heap.size w w':=
 (Go.Proofs.YtfdlmpicmkpabaaDoor.PB.logbook_isIn.calls a b c _ w (isIn_is a b c)).mono fun e w' ⟨he,hd⟩=>⟨he,hd.below⟩
def genC(key:ByteArray)(st n:Int)(root:ByteArray):Prop:=(0<=st∧st<=99)∧(0<=n∧n<=60)∧key.size=32∧root.size=32
instance (key:ByteArray) (st n:Int) (root:ByteArray):Decidable (genC key st n root):=by unfold genC;infer_instance
def genF(key:ByteArray)(st n:Int)(root t:ByteArray):Bool:=decide (genC key st n root)&&(t.toList==(tagOf key st n root).toList)
set_option maxHeartbeats 1000000 in
theorem genuine_walk(key:ByteArray)(st n:Int)(root t:ByteArray)(w:World)(hG:GL w)(hks:key.size<=140737488351232)(hrs:root.size<=140737488351232):
  Calls Tryd.prog 14 #[.string key,.int .i64 st,.int .i64 n,.string root,.string t] w fun e w'=>e=.returned (.bool (genF key st n root t))∧Below w.heap.size w w':=by
 have HG:=Lib.hid hG;obtain⟨q,hq⟩:∃q,genF key st n root t=q:=⟨_,rfl⟩
 rw[hq];have HQ:=Lib.hid hq;clear hG hq
 by_cases h1:0<=st∧st<=99
 ·have d1:decide (0<=st∧st<=99)=true:=decide_eq_true h1
  by_cases h2:0<=n∧n<=60
  ·have d2:decide (0<=n∧n<=60)=true:=decide_eq_true h2
   by_cases h3:key.size=32
   ·have e3:((key.size:Int)==32)=true:=by rw[show (key.size:Int)=32 by omega];rfl
    by_cases h4:root.size=32
    ·have e4:((root.size:Int)==32)=true:=by rw[show (root.size:Int)=32 by omega];rfl
     have HD:=Lib.hid (And.intro d1 d2);have HTG:=Lib.hid (fun W hW=>tag_walk key st n root h3 h4 h1 h2 W hW);have HC:Hid (genC key st n root):=Lib.hid ⟨h1,h2,h3,h4⟩;clear h1 h2 h3 h4 d1 d2
     go_enter Tryd.func14,Tryd.ntmps14
     go_upto_region 2 with (first |(go_at_call 50;(with_reducible refine (isIn_walk st 0 99 _).mono ?_);rintro e w2 ⟨rfl,hb2⟩;rw[HD.out.1]) |(go_at_call 50;(with_reducible refine (isIn_walk n 0 60 _).mono ?_);rintro e w3 ⟨rfl,hb3⟩;rw[HD.out.2]) |fail)
     have HG2:=Lib.hid (HG.out.below (Below.trans hb2 (hb3.mono hb2.size)))
     go_wp2_with (first |(go_at_call 47;(with_reducible refine (HTG.out _ HG2.out).mono ?_);rintro e w4 ⟨rfl,hb4⟩) |fail)
     go_ret
     refine⟨?_,Below.trans (Below.trans hb2 (hb3.mono hb2.size)) (hb4.mono (Nat.le_trans hb2.size hb3.size))⟩;rw[<-HQ.out];unfold genF;rw[decide_eq_true HC.out,Bool.true_and];rfl
    ·have e4:((root.size:Int)==32)=false:=by simpa using (show ¬(root.size:Int)=32 by omega)
     have HF:Hid (genF key st n root t=false):=Lib.hid (by unfold genF;rw[decide_eq_false (by rintro⟨_,_,_,h⟩;exact h4 h)];rfl);have HD:=Lib.hid (And.intro d1 d2);clear h1 h2 h3 h4 d1 d2
     go_enter Tryd.func14,Tryd.ntmps14
     go_upto_region 2 with (first |(go_at_call 50;(with_reducible refine (isIn_walk st 0 99 _).mono ?_);rintro e w2 ⟨rfl,hb2⟩;rw[HD.out.1]) |(go_at_call 50;(with_reducible refine (isIn_walk n 0 60 _).mono ?_);rintro e w3 ⟨rfl,hb3⟩;rw[HD.out.2]) |fail)
     go_wp2
     go_ret
     exact⟨by rw[<-HQ.out,HF.out];rfl,Below.trans hb2 (hb3.mono hb2.size)⟩
   ·have e3:((key.size:Int)==32)=false:=by simpa using (show ¬(key.size:Int)=32 by omega)
    have HF:Hid (genF key st n root t=false):=Lib.hid (by unfold genF;rw[decide_eq_false (by rintro⟨_,_,h,_⟩;exact h3 h)];rfl);have HD:=Lib.hid (And.intro d1 d2);clear h1 h2 h3 d1 d2
    go_enter Tryd.func14,Tryd.ntmps14
    go_upto_region 2 with (first |(go_at_call 50;(with_reducible refine (isIn_walk st 0 99 _).mono ?_);rintro e w2 ⟨rfl,hb2⟩;rw[HD.out.1]) |(go_at_call 50;(with_reducible refine (isIn_walk n 0 60 _).mono ?_);rintro e w3 ⟨rfl,hb3⟩;rw[HD.out.2]) |fail)
    go_wp2
    go_ret
    exact⟨by rw[<-HQ.out,HF.out];rfl,Below.trans hb2 (hb3.mono hb2.size)⟩
  ·have d2:decide (0<=n∧n<=60)=false:=decide_eq_false h2;have HF:Hid (genF key st n root t=false):=Lib.hid (by unfold genF;rw[decide_eq_false (by rintro⟨_,h,_,_⟩;exact h2 h)];rfl);have HD:=Lib.hid (And.intro d1 d2);clear h1 h2 d1 d2
   go_enter Tryd.func14,Tryd.ntmps14
   go_upto_region 2 with (first |(go_at_call 50;(with_reducible refine (isIn_walk st 0 99 _).mono ?_);rintro e w2 ⟨rfl,hb2⟩;rw[HD.out.1]) |(go_at_call 50;(with_reducible refine (isIn_walk n 0 60 _).mono ?_);rintro e w3 ⟨rfl,hb3⟩;rw[HD.out.2]) |fail)
   go_wp2
   go_ret
   exact⟨by rw[<-HQ.out,HF.out];rfl,Below.trans hb2 (hb3.mono hb2.size)⟩
 ·have d1:decide (0<=st∧st<=99)=false:=decide_eq_false h1;have HF:Hid (genF key st n root t=false):=Lib.hid (by unfold genF;rw[decide_eq_false (by rintro⟨h,_,_,_⟩;exact h1 h)];rfl);have HD:=Lib.hid d1;clear h1 d1
  go_enter Tryd.func14,Tryd.ntmps14
  go_upto_region 2 with (first |(go_at_call 50;(with_reducible refine (isIn_walk st 0 99 _).mono ?_);rintro e w2 ⟨rfl,hb2⟩;rw[HD.out]) |fail)
  go_wp2
  go_ret
  exact⟨by rw[<-HQ.out,HF.out];rfl,hb2⟩
def listF(st:Int)(rs:List Rec)(r:Option (List ByteArray × Int)):List ByteArray × Int:=if validB st rs then (match r with |some (p,e)=>if e=0 then (p,0) else ([],350) |none=>([],350)) else ([],350)
theorem R_none(w:World)(N:Nat):Kd.R Kd.string 9 w N (fun _=>True) (.slice none 0 0) []:=⟨fun _ _=>trivial,OwnRow.none_ _ _ _ _ _⟩
set_option maxHeartbeats 1000000 in
theorem listed_walk(f:Nat)(st:Int)(A:Option Addr)(n c:Nat)(rs:List Rec)(hl:rs.length=n)(i:Int)(p:List ByteArray)(e:Int)(w:World)(hG:GL w)(hC:Kd.C kRec w A n rs)(hc:n<=c)(hn:n<=1000000)(hf:f=67∨f=72)
  (hF:validB st rs=true->∀g W,GL W->Kd.C Kd.string W (some ⟨g,0,none⟩) n (codesOf rs)->Calls Tryd.prog f #[.slice (some ⟨g,0,none⟩) n n,.int .i64 i] W fun x W'=>∃v:Value,x=.returned (.tuple #[v,.int .i64 e])∧Kd.R Kd.string 9 W' W.heap.size (fun _=>True) v p∧Below W.heap.size W W'):
  Calls Tryd.prog 66 #[.agg #[.int .i64 st,.slice A n c],.int .i64 i,.func (.func f) #[] #[]] w fun x w'=>∃v:Value,x=.returned (.tuple #[v,.int .i64 (listF st rs (some (p,e))).2])∧Kd.R Kd.string 9 w' w.heap.size (fun _=>True) v (listF st rs (some (p,e))).1∧Below w.heap.size w w':=by
 have hb:=(Below.refl w.heap.size w).alloc (Nat.le_refl _) (.cells #[.int .i64 st,.slice A n c] 26);have hC1:=Kd.C_below hC hb;have HG:=Lib.hid (hG.below hb);have HB:=Lib.hid hb;have HFF:=Lib.hid hf;obtain⟨q1,q2,hq⟩:∃q1 q2,listF st rs (some (p,e))=(q1,q2):=⟨_,_,rfl⟩
 rw[hq]
 cases hv:validB st rs with
 |false=>
  have hS:(q1,q2)=(([]:List ByteArray),(350:Int)):=by rw[<-hq];unfold listF;rw[hv];rfl
  injection hS with e1 e2
  subst e1 e2;have HW:=Lib.hid (codes_no st A n c rs hl _ hC1 hc hn hv);clear hv hC1 hC hG hb hq hF hf
  go_enter Tryd.func66,Tryd.ntmps66
  go_wp2_with (first |(go_at_call 48;(with_reducible refine HW.out.mono ?_);rintro e w2 ⟨rfl,hb2⟩) |fail)
  go_ret2
  exact⟨_,rfl,R_none _ _,Below.trans HB.out (hb2.mono HB.out.size)⟩
 |true=>
  have HW:=Lib.hid (codes_walk st A n c rs hl _ hC1 hc hn (C_lt hC1) hv);have HCF:=Lib.hid (hF hv);have HQ:=Lib.hid hq;have HV:=Lib.hid hv;clear hv hC1 hC hG hb hq hF hf
  go_enter Tryd.func66,Tryd.ntmps66
  go_upto_region 4 with (first |(go_at_call 48;(with_reducible refine HW.out.mono ?_);rintro e w2 ⟨g,rfl,hC2,hb2⟩) |fail)
  have HCC:=Lib.hid (HCF.out g _ (HG.out.below hb2) hC2);clear hC2;rcases HFF.out with rfl |rfl
  ·by_cases he:e=0
   ·have hS:(q1,q2)=(p,(0:Int)):=by rw[<-HQ.out];unfold listF;rw[HV.out,if_pos rfl];simp[he]
    injection hS with e1 e2
    subst e1 e2;have e3:(e !=0)=false:=by rw[he];rfl
    go_wp2_with (first |(go_at_call 67;(with_reducible refine HCC.out.mono ?_);rintro x w3 ⟨v,rfl,hR3,hb3⟩) |fail)
    go_ret2
    exact⟨v,rfl,Kd.R_lower hR3 (Nat.le_trans HB.out.size hb2.size),Below.trans HB.out (Below.trans (hb2.mono HB.out.size) (hb3.mono (Nat.le_trans HB.out.size hb2.size)))⟩
   ·have hS:(q1,q2)=(([]:List ByteArray),(350:Int)):=by rw[<-HQ.out];unfold listF;rw[HV.out,if_pos rfl];simp[he]
    injection hS with e1 e2
    subst e1 e2;have e3:(e !=0)=true:=by simpa using he
    go_wp2_with (first |(go_at_call 67;(with_reducible refine HCC.out.mono ?_);rintro x w3 ⟨v,rfl,hR3,hb3⟩) |fail)
    go_ret2
    exact⟨_,rfl,R_none _ _,Below.trans HB.out (Below.trans (hb2.mono HB.out.size) (hb3.mono (Nat.le_trans HB.out.size hb2.size)))⟩
  ·by_cases he:e=0
   ·have hS:(q1,q2)=(p,(0:Int)):=by rw[<-HQ.out];unfold listF;rw[HV.out,if_pos rfl];simp[he]
    injection hS with e1 e2
    subst e1 e2;have e3:(e !=0)=false:=by rw[he];rfl
    go_wp2_with (first |(go_at_call 72;(with_reducible refine HCC.out.mono ?_);rintro x w3 ⟨v,rfl,hR3,hb3⟩) |fail)
    go_ret2
    exact⟨v,rfl,Kd.R_lower hR3 (Nat.le_trans HB.out.size hb2.size),Below.trans HB.out (Below.trans (hb2.mono HB.out.size) (hb3.mono (Nat.le_trans HB.out.size hb2.size)))⟩
   ·have hS:(q1,q2)=(([]:List ByteArray),(350:Int)):=by rw[<-HQ.out];unfold listF;rw[HV.out,if_pos rfl];simp[he]
    injection hS with e1 e2
    subst e1 e2;have e3:(e !=0)=true:=by simpa using he
    go_wp2_with (first |(go_at_call 72;(with_reducible refine HCC.out.mono ?_);rintro x w3 ⟨v,rfl,hR3,hb3⟩) |fail)
    go_ret2
    exact⟨_,rfl,R_none _ _,Below.trans HB.out (Below.trans (hb2.mono HB.out.size) (hb3.mono (Nat.le_trans HB.out.size hb2.size)))⟩
theorem prove_walk(st:Int)(A:Option Addr)(n c:Nat)(rs:List Rec)(hl:rs.length=n)(i:Int)(w:World)(hG:GL w)(hC:Kd.C kRec w A n rs)(hc:n<=c)(hn:n<=1000000):
  Calls Tryd.prog 34 #[.agg #[.int .i64 st,.slice A n c],.int .i64 i] w fun x w'=>∃v:Value,x=.returned (.tuple #[v,.int .i64 (listF st rs (digest_Proof.f (codesOf rs) i)).2])∧Kd.R Kd.string 9 w' w.heap.size (fun _=>True) v (listF st rs (digest_Proof.f (codesOf rs) i)).1∧Below w.heap.size w w':=by
 have hb:=(Below.refl w.heap.size w).alloc (Nat.le_refl _) (.cells #[.int .i64 st,.slice A n c] 26);obtain⟨p,e,hpe⟩:∃p e,validB st rs=true->digest_Proof.f (codesOf rs) i=some (p,e):=by
  cases hv:validB st rs with
  |false=>exact⟨[],0,fun h=>by cases h⟩
  |true=>unfold digest_Proof.f;rw[if_pos (codes_fits hv)];split<;>exact⟨_,_,fun _=>rfl⟩
 have hL:listF st rs (digest_Proof.f (codesOf rs) i)=listF st rs (some (p,e)):=by
  unfold listF
  cases hv:validB st rs with
  |false=>rfl
  |true=>rw[hpe hv]
 rw[hL];have HW:=Lib.hid (listed_walk 67 st A n c rs hl i p e _ (hG.below hb) (Kd.C_below hC hb) hc hn (.inl rfl) (fun hv g W hGW hCW=>by
  have hln:(codesOf rs).length=n:=by unfold codesOf;rw[List.length_map];exact hl
  have:=digest_Proof.calls (some ⟨g,0,none⟩) n (codesOf rs) i p e W (by rw[hln];exact hCW) (by omega) hGW (hpe hv)
  rwa [hln] at this))
 have HB:=Lib.hid hb;obtain⟨q1,q2,hq⟩:∃q1 q2,listF st rs (some (p,e))=(q1,q2):=⟨_,_,rfl⟩
 rw[hq] at HW ⊢;clear hL hpe hq hb hG hC
 go_enter Tryd.func34,Tryd.ntmps34
 go_wp2_with (first |(go_at_call 66;(with_reducible refine HW.out.mono ?_);rintro x w2 ⟨v,rfl,hR2,hb2⟩) |fail)
 go_ret2
 exact⟨v,rfl,Kd.R_lower hR2 HB.out.size,Below.trans HB.out (hb2.mono HB.out.size)⟩
theorem grown_walk(st:Int)(A:Option Addr)(n c:Nat)(rs:List Rec)(hl:rs.length=n)(i:Int)(w:World)(hG:GL w)(hC:Kd.C kRec w A n rs)(hc:n<=c)(hn:n<=1000000):
  Calls Tryd.prog 42 #[.agg #[.int .i64 st,.slice A n c],.int .i64 i] w fun x w'=>∃v:Value,x=.returned (.tuple #[v,.int .i64 (listF st rs (digest_Extension.f (codesOf rs) i)).2])∧Kd.R Kd.string 9 w' w.heap.size (fun _=>True) v (listF st rs (digest_Extension.f (codesOf rs) i)).1∧Below w.heap.size w w':=by
 have hb:=(Below.refl w.heap.size w).alloc (Nat.le_refl _) (.cells #[.int .i64 st,.slice A n c] 26);obtain⟨p,e,hpe⟩:∃p e,validB st rs=true->digest_Extension.f (codesOf rs) i=some (p,e):=by
  cases hv:validB st rs with
  |false=>exact⟨[],0,fun h=>by cases h⟩
  |true=>
   unfold digest_Extension.f;rw[if_pos (codes_fits hv)]
   split
   ·split<;>exact⟨_,_,fun _=>rfl⟩
   ·exact⟨_,_,fun _=>rfl⟩
 have hL:listF st rs (digest_Extension.f (codesOf rs) i)=listF st rs (some (p,e)):=by
  unfold listF
  cases hv:validB st rs with
  |false=>rfl
  |true=>rw[hpe hv]
 rw[hL];have HW:=Lib.hid (listed_walk 72 st A n c rs hl i p e _ (hG.below hb) (Kd.C_below hC hb) hc hn (.inr rfl) (fun hv g W hGW hCW=>by
  have hln:(codesOf rs).length=n:=by unfold codesOf;rw[List.length_map];exact hl
  have:=digest_Extension.calls (some ⟨g,0,none⟩) n (codesOf rs) i p e W (by rw[hln];exact hCW) (by omega) hGW (hpe hv)
  rwa [hln] at this))
 have HB:=Lib.hid hb;obtain⟨q1,q2,hq⟩:∃q1 q2,listF st rs (some (p,e))=(q1,q2):=⟨_,_,rfl⟩
 rw[hq] at HW ⊢;clear hL hpe hq hb hG hC
 go_enter Tryd.func42,Tryd.ntmps42
 go_wp2_with (first |(go_at_call 66;(with_reducible refine HW.out.mono ?_);rintro x w2 ⟨v,rfl,hR2,hb2⟩) |fail)
 go_ret2
 exact⟨v,rfl,Kd.R_lower hR2 HB.out.size,Below.trans HB.out (hb2.mono HB.out.size)⟩
def checkF(root:ByteArray)(n i:Int)(r:Rec)(proof:List ByteArray):Bool:=recB r&&verifyB root n i (txtR r) proof
set_option maxHeartbeats 1000000 in
theorem check_walkR(root:ByteArray)(n i:Int)(r:Rec)(A:Option Addr)(m c:Nat)(proof:List ByteArray)(hl:proof.length=m)(hn: -9223372036854775808<=n∧n<=9223372036854775807)(hi: -9223372036854775808<=i∧i<=9223372036854775807)(hft:fits proof)(w:World)(hG:GL w)(hC:Kd.C Kd.string w A m proof)(hc:m<=c):
  Calls Tryd.prog 35 #[.string root,.int .i64 n,.int .i64 i,rval r,.slice A m c] w fun x w'=>x=.returned (.bool (checkF root n i r proof))∧Below w.heap.size w w':=by
 have hb:=(Below.refl w.heap.size w).alloc (Nat.le_refl _) (.cells #[.int .i64 r.f0,.int .i64 r.f1,.int .i64 r.f2,.int .i64 r.f3,.string r.f4] 43);have HB:=Lib.hid hb;have HW:=Lib.hid (fun W=>encode_walk r W);obtain⟨q,hq⟩:∃q,checkF root n i r proof=q:=⟨_,rfl⟩
 rw[hq]
 cases hv:recB r with
 |false=>
  have hE:encF r=(⟨#[]⟩,350):=by unfold encF;rw[hv];rfl
  have hF:q=false:=by rw[<-hq];unfold checkF;rw[hv];rfl
  subst hF;rw[hE] at HW;clear hv hE hq hb hG hC
  go_enter Tryd.func35,Tryd.ntmps35
  go_wp2_with (first |(go_at_call 20;(with_reducible refine (HW.out _).mono ?_);rintro x w2 ⟨rfl,hb2⟩) |fail)
  go_ret
  exact⟨rfl,Below.trans HB.out (hb2.mono HB.out.size)⟩
 |true=>
  have hE:encF r=(txtR r,0):=by unfold encF;rw[hv];rfl
  have hF:q=verifyB root n i (txtR r) proof:=by rw[<-hq];unfold checkF;rw[hv,Bool.true_and]
  rw[hE] at HW;have hts:=txt_size hv;have HV:=Lib.hid (fun W hGW hCW=>digest_Verify.calls root n i (txtR r) A c proof q W hCW (by omega) hGW (by unfold digest_Verify.f;rw[if_pos ⟨⟨hft,by omega⟩,hn,hi⟩,hF]));rw[hl] at HV;have HG:=Lib.hid (hG.below hb);have HC:=Lib.hid (Kd.C_below hC hb);clear hv hE hq hb hG hC hF hts hft
  go_enter Tryd.func35,Tryd.ntmps35
  go_upto_region 2 with (first |(go_at_call 20;(with_reducible refine (HW.out _).mono ?_);rintro x w2 ⟨rfl,hb2⟩) |fail)
  have HG2:=Lib.hid (HG.out.below hb2);have HC2:=Lib.hid (Kd.C_below HC.out hb2)
  go_wp2_with (first |(go_at_call 68;(with_reducible refine (HV.out _ HG2.out HC2.out).mono ?_);rintro x w3 ⟨rfl,hb3⟩) |fail)
  go_ret
  exact⟨rfl,Below.trans HB.out (Below.trans (hb2.mono HB.out.size) (hb3.mono (Nat.le_trans HB.out.size hb2.size)))⟩
theorem checkGrown_walk(old:ByteArray)(n:Int)(root:ByteArray)(m:Int)(A:Option Addr)(k c:Nat)(proof:List ByteArray)(hl:proof.length=k)(q:Bool)(h:digest_VerifyExtension.f old n root m proof=some q)(w:World)(hG:GL w)(hC:Kd.C Kd.string w A k proof)(hc:k<=c):
  Calls Tryd.prog 43 #[.string old,.int .i64 n,.string root,.int .i64 m,.slice A k c] w fun x w'=>x=.returned (.bool q)∧Below w.heap.size w w':=by
 subst hl;have HV:=Lib.hid (digest_VerifyExtension.calls old n root m A c proof q w hC hc hG h);clear h hG hC
 go_enter Tryd.func43,Tryd.ntmps43
 go_wp2_with (first |(go_at_call 73;(with_reducible refine HV.out.mono ?_);rintro x w3 ⟨rfl,hb3⟩) |fail)
 go_ret
 exact⟨rfl,hb3⟩
end Go.Proofs.YtfdlmpicmkpabaaDoor.Ext
end
