import Derived.Test.YtfdlmpicmkpabaaDoorMLogbookDecodesav
import Derived.Test.YtfdlmpicmkpabaaDoorMLogbookDecodesbi
import Derived.Test.YtfdlmpicmkpabaaDoorMLogbookDecodesbj
import Derived.Test.YtfdlmpicmkpabaaDoorMLogbookDecodesal
import Derived.Test.YtfdlmpicmkpabaaDoorMLogbookDecodesam
import Derived.Test.YtfdlmpicmkpabaaDoorMLogbookDecodesai
import Derived.Outline
import Derived.Test.YtfdlmpicmkpabaaDoorMLogbookDecodesao
import Derived.Test.YtfdlmpicmkpabaaDoorMLogbookDecodesbe
import Derived.Test.YtfdlmpicmkpabaaDoorMLogbookDecodesbc
import Derived.Test.YtfdlmpicmkpabaaDoorMLogbookDecodesar
import Derived.Test.YtfdlmpicmkpabaaDoorMLogbookDecodesas
import Derived.Test.YtfdlmpicmkpabaaDoorMLogbookDecodesat
/-
  Texts of this claim, one behind the other: what they prove stands above each.
-/
set_option linter.unusedVariables false
set_option linter.unusedSimpArgs false
section
namespace Go.Proofs.YtfdlmpicmkpabaaDoor.Ext
set_option maxRecDepth 100000
open Go.RowKit Go.Proofs.YtfdlmpicmkpabaaDoorW.PrintWords Go.Proofs.YtfdlmpicmkpabaaDoorW.PrintLast Go.Proofs.YtfdlmpicmkpabaaDoorW.PrintMore
def I63(x:Int):Prop:= -9223372036854775808<=x∧x<=9223372036854775807
instance (x:Int):Decidable (I63 x):=by unfold I63;infer_instance
def few6(l:List Rec):Prop:=l.length<=1000000
instance (l:List Rec):Decidable (few6 l):=by unfold few6;infer_instance
def logbook_Encode.f(a0:Int)(a1:Int)(a2:Int)(a3:Int)(a4:ByteArray):Option (ByteArray × Int):=some (encF ⟨a0,a1,a2,a3,a4⟩)
theorem logbook_Encode.calls(a0:Int)(a1:Int)(a2:Int)(a3:Int)(a4:ByteArray)(r1:ByteArray)(r2:Int)(w:World)(h:logbook_Encode.f a0 a1 a2 a3 a4=some (r1,r2)):
  Calls Tryd.prog 20 #[.agg #[.int .i64 a0,.int .i64 a1,.int .i64 a2,.int .i64 a3,.string a4]] w fun e w'=>e=.returned (.tuple #[.string r1,.int .i64 r2])∧Below w.heap.size w w':=by
 have h:=Option.some.inj h;have:=encode_walk ⟨a0,a1,a2,a3,a4⟩ w;rw[h] at this;exact this
def logbook_Decode.f(a0:ByteArray):Option (Int × Int × Int × Int × ByteArray × Int):=if a0.size<=140737488351232 then some ((decF a0).1.f0,(decF a0).1.f1,(decF a0).1.f2,(decF a0).1.f3,(decF a0).1.f4,(decF a0).2) else none
theorem logbook_Decode.calls(a0:ByteArray)(r1 r2 r3 r4:Int)(r5:ByteArray)(r6:Int)(w:World)(h:logbook_Decode.f a0=some (r1,r2,r3,r4,r5,r6)):
  Calls Tryd.prog 21 #[.string a0] w fun e w'=>e=.returned (.tuple #[.agg #[.int .i64 r1,.int .i64 r2,.int .i64 r3,.int .i64 r4,.string r5],.int .i64 r6])∧Below w.heap.size w w':=by
 unfold logbook_Decode.f at h
 split at h
 ·rename_i hs;have h:=Option.some.inj h;simp only[Prod.mk.injEq] at h;obtain⟨rfl,rfl,rfl,rfl,rfl,rfl⟩:=h;exact decode_walk a0 hs w
 ·cases h
def logbook_Find.f(a0_0:Int)(l0_1:List Rec)(a1:Int)(a2:Int):Option Int:=if few6 l0_1 then some (findF a0_0 l0_1 a1 a2) else none
theorem logbook_Find.calls(a0_0:Int)(A0_1:Option Addr)(c0_1:Nat)(l0_1:List Rec)(a1 a2:Int)(r:Int)(w:World)(hr0_1:Kd.C kRec w A0_1 l0_1.length l0_1)(hc0_1:l0_1.length<=c0_1)(h:logbook_Find.f a0_0 l0_1 a1 a2=some r):
  Calls Tryd.prog 29 #[.agg #[.int .i64 a0_0,.slice A0_1 l0_1.length c0_1],.int .i64 a1,.int .i64 a2] w fun e w'=>e=.returned (.int .i64 r)∧Below w.heap.size w w':=by
 unfold logbook_Find.f at h
 split at h
 ·rename_i hs;obtain rfl:=Option.some.inj h;exact find_walk a0_0 A0_1 _ c0_1 l0_1 rfl a1 a2 w hr0_1 hc0_1 hs (C_lt hr0_1)
 ·cases h
def logbook_Head.f(a0_0:Int)(l0_1:List Rec):Option (ByteArray × Int):=if few6 l0_1 then some (headF a0_0 l0_1) else none
theorem logbook_Head.calls(a0_0:Int)(A0_1:Option Addr)(c0_1:Nat)(l0_1:List Rec)(r1:ByteArray)(r2:Int)(w:World)(hr0_1:Kd.C kRec w A0_1 l0_1.length l0_1)(hc0_1:l0_1.length<=c0_1)(hG:GL w)(h:logbook_Head.f a0_0 l0_1=some (r1,r2)):
  Calls Tryd.prog 13 #[.agg #[.int .i64 a0_0,.slice A0_1 l0_1.length c0_1]] w fun e w'=>e=.returned (.tuple #[.string r1,.int .i64 r2])∧Below w.heap.size w w':=by
 unfold logbook_Head.f at h
 split at h
 ·rename_i hs;have h:=Option.some.inj h;have:=head_walk a0_0 A0_1 _ c0_1 l0_1 rfl w hG hr0_1 hc0_1 hs;rw[h] at this;exact this
 ·cases h
def logbook_Sign.f(a0:ByteArray)(a1_0:Int)(l1_1:List Rec):Option (ByteArray × Int):=if few6 l1_1∧a0.size<=140737488351232 then some (signF a0 a1_0 l1_1) else none
theorem logbook_Sign.calls(a0:ByteArray)(a1_0:Int)(A1_1:Option Addr)(c1_1:Nat)(l1_1:List Rec)(r1:ByteArray)(r2:Int)(w:World)(hr1_1:Kd.C kRec w A1_1 l1_1.length l1_1)(hc1_1:l1_1.length<=c1_1)(hG:GL w)(h:logbook_Sign.f a0 a1_0 l1_1=some (r1,r2)):
  Calls Tryd.prog 12 #[.string a0,.agg #[.int .i64 a1_0,.slice A1_1 l1_1.length c1_1]] w fun e w'=>e=.returned (.tuple #[.string r1,.int .i64 r2])∧Below w.heap.size w w':=by
 unfold logbook_Sign.f at h
 split at h
 ·rename_i hs;have h:=Option.some.inj h;have:=sign_walk a0 a1_0 A1_1 _ c1_1 l1_1 rfl w hG hr1_1 hc1_1 hs.1 hs.2;rw[h] at this;exact this
 ·cases h
def logbook_Genuine.f(a0:ByteArray)(a1 a2:Int)(a3 a4:ByteArray):Option Bool:=if a0.size<=140737488351232∧a3.size<=140737488351232 then some (genF a0 a1 a2 a3 a4) else none
theorem logbook_Genuine.calls(a0:ByteArray)(a1 a2:Int)(a3 a4:ByteArray)(r:Bool)(w:World)(hG:GL w)(h:logbook_Genuine.f a0 a1 a2 a3 a4=some r):
  Calls Tryd.prog 14 #[.string a0,.int .i64 a1,.int .i64 a2,.string a3,.string a4] w fun e w'=>e=.returned (.bool r)∧Below w.heap.size w w':=by
 unfold logbook_Genuine.f at h
 split at h
 ·rename_i hs;obtain rfl:=Option.some.inj h;exact genuine_walk a0 a1 a2 a3 a4 w hG hs.1 hs.2
 ·cases h
def logbook_Prove.f(a0_0:Int)(l0_1:List Rec)(a1:Int):Option (List ByteArray × Int):=if few6 l0_1 then some (listF a0_0 l0_1 (digest_Proof.f (codesOf l0_1) a1)) else none
theorem logbook_Prove.calls(a0_0:Int)(A0_1:Option Addr)(c0_1:Nat)(l0_1:List Rec)(a1:Int)(r1:List ByteArray)(r2:Int)(w:World)(hr0_1:Kd.C kRec w A0_1 l0_1.length l0_1)(hc0_1:l0_1.length<=c0_1)(hG:GL w)(h:logbook_Prove.f a0_0 l0_1 a1=some (r1,r2)):
  Calls Tryd.prog 34 #[.agg #[.int .i64 a0_0,.slice A0_1 l0_1.length c0_1],.int .i64 a1] w fun e w'=>∃v0_:Value,e=.returned (.tuple #[v0_,.int .i64 r2])∧Kd.R Kd.string 9 w' w.heap.size (fun _=>True) v0_ r1∧Below w.heap.size w w':=by
 unfold logbook_Prove.f at h
 split at h
 ·rename_i hs;have h:=Option.some.inj h;have:=prove_walk a0_0 A0_1 _ c0_1 l0_1 rfl a1 w hG hr0_1 hc0_1 hs;rw[h] at this;exact this
 ·cases h
def logbook_Grown.f(a0_0:Int)(l0_1:List Rec)(a1:Int):Option (List ByteArray × Int):=if few6 l0_1 then some (listF a0_0 l0_1 (digest_Extension.f (codesOf l0_1) a1)) else none
theorem logbook_Grown.calls(a0_0:Int)(A0_1:Option Addr)(c0_1:Nat)(l0_1:List Rec)(a1:Int)(r1:List ByteArray)(r2:Int)(w:World)(hr0_1:Kd.C kRec w A0_1 l0_1.length l0_1)(hc0_1:l0_1.length<=c0_1)(hG:GL w)(h:logbook_Grown.f a0_0 l0_1 a1=some (r1,r2)):
  Calls Tryd.prog 42 #[.agg #[.int .i64 a0_0,.slice A0_1 l0_1.length c0_1],.int .i64 a1] w fun e w'=>∃v0_:Value,e=.returned (.tuple #[v0_,.int .i64 r2])∧Kd.R Kd.string 9 w' w.heap.size (fun _=>True) v0_ r1∧Below w.heap.size w w':=by
 unfold logbook_Grown.f at h
 split at h
 ·rename_i hs;have h:=Option.some.inj h;have:=grown_walk a0_0 A0_1 _ c0_1 l0_1 rfl a1 w hG hr0_1 hc0_1 hs;rw[h] at this;exact this
 ·cases h
def logbook_Check.f(a0:ByteArray)(a1 a2:Int)(a3_0 a3_1 a3_2 a3_3:Int)(a3_4:ByteArray)(l4:List ByteArray):Option Bool:=if fits l4∧I63 a1∧I63 a2 then some (checkF a0 a1 a2 ⟨a3_0,a3_1,a3_2,a3_3,a3_4⟩ l4) else none
theorem logbook_Check.calls(a0:ByteArray)(a1 a2:Int)(a3_0 a3_1 a3_2 a3_3:Int)(a3_4:ByteArray)(A4:Option Addr)(c4:Nat)(l4:List ByteArray)(r:Bool)(w:World)(hr4:Kd.C Kd.string w A4 l4.length l4)(hc4:l4.length<=c4)(hG:GL w)(h:logbook_Check.f a0 a1 a2 a3_0 a3_1 a3_2 a3_3 a3_4 l4=some r):
  Calls Tryd.prog 35 #[.string a0,.int .i64 a1,.int .i64 a2,.agg #[.int .i64 a3_0,.int .i64 a3_1,.int .i64 a3_2,.int .i64 a3_3,.string a3_4],.slice A4 l4.length c4] w fun e w'=>e=.returned (.bool r)∧Below w.heap.size w w':=by
 unfold logbook_Check.f at h
 split at h
 ·rename_i hs;obtain rfl:=Option.some.inj h;exact check_walkR a0 a1 a2 ⟨a3_0,a3_1,a3_2,a3_3,a3_4⟩ A4 _ c4 l4 rfl hs.2.1 hs.2.2 hs.1 w hG hr4 hc4
 ·cases h
def logbook_CheckGrown.f(a0:ByteArray)(a1:Int)(a2:ByteArray)(a3:Int)(l4:List ByteArray):Option Bool:=digest_VerifyExtension.f a0 a1 a2 a3 l4
theorem logbook_CheckGrown.calls(a0:ByteArray)(a1:Int)(a2:ByteArray)(a3:Int)(A4:Option Addr)(c4:Nat)(l4:List ByteArray)(r:Bool)(w:World)(hr4:Kd.C Kd.string w A4 l4.length l4)(hc4:l4.length<=c4)(hG:GL w)(h:logbook_CheckGrown.f a0 a1 a2 a3 l4=some r):
  Calls Tryd.prog 43 #[.string a0,.int .i64 a1,.string a2,.int .i64 a3,.slice A4 l4.length c4] w fun e w'=>e=.returned (.bool r)∧Below w.heap.size w w':=
 checkGrown_walk a0 a1 a2 a3 A4 _ c4 l4 rfl r h w hG hr4 hc4
end Go.Proofs.YtfdlmpicmkpabaaDoor.Ext
end
section
namespace Go.Proofs.YtfdlmpicmkpabaaDoor.Ext
set_option maxRecDepth 100000
open Go.RowKit Go.Proofs.YtfdlmpicmkpabaaDoorW.PrintWords Go.Proofs.YtfdlmpicmkpabaaDoorW.PrintLast Go.Proofs.YtfdlmpicmkpabaaDoorW.PrintMore Go.Proofs.YtfdlmpicmkpabaaDoor.PB
set_option maxRecDepth 100000
def e0:Rec:=⟨10,1,7, -1,⟨#[110,101,119,115]⟩⟩
def e1:Rec:=⟨20,2,0,5,⟨#[]⟩⟩
def e2:Rec:=⟨20,1,8, -1,⟨#[]⟩⟩
def e3:Rec:=⟨20,3,0,0,⟨#[]⟩⟩
abbrev s0:ByteArray:=⟨#[20,2,14,1,8,110,101,119,115]⟩
theorem v_enc:encF e0=(s0,0):=by decide+kernel
theorem v_dec:decF s0=(e0,0):=by kernel_rfl
theorem v_valid:validB 4 [e0,e1,e2]=true:=by decide+kernel
theorem v_valid0:validB 100 []=false:=by decide+kernel
theorem v_find1:findF 4 [e0,e1,e2] 1 9= -1:=by decide+kernel
theorem v_find2:findF 4 [e0,e1,e2] 1 19=0:=by decide+kernel
theorem v_find3:findF 4 [e0,e1,e2] 1 20=2:=by decide+kernel
def ex:List Rec:=[e0,e1,e2]
def ex4:List Rec:=[e0,e1,e2,e3]
def root0:ByteArray:=rootOf ex
def next0:ByteArray:=rootOf ex4
def p0:List ByteArray:=(listF 4 ex (digest_Proof.f (codesOf ex) 1)).1
def q0:List ByteArray:=(listF 4 ex4 (digest_Extension.f (codesOf ex4) 3)).1
def key0:ByteArray:=hash ⟨#[2]⟩
def tag0:ByteArray:=tagOf key0 4 3 root0
theorem v_head:headF 4 ex=(root0,0):=by kernel_rfl
theorem v_head4:headF 4 ex4=(next0,0):=by kernel_rfl
theorem v_prove:listF 4 ex (digest_Proof.f (codesOf ex) 1)=(p0,0):=by kernel_rfl
theorem v_grown:listF 4 ex4 (digest_Extension.f (codesOf ex4) 3)=(q0,0):=by kernel_rfl
theorem v_pl:p0.length=2:=by decide+kernel
theorem v_ql:q0.length=3:=by decide+kernel
theorem v_key:key0.size=32:=by decide+kernel
theorem v_root:root0.size=32:=by decide+kernel
theorem v_check:checkF root0 3 1 e1 p0=true:=by decide+kernel
theorem v_check0:checkF root0 3 0 e1 p0=false:=by decide+kernel
theorem v_gen:genF key0 4 3 root0 tag0=true:=by decide+kernel
theorem v_gen2:genF key0 5 3 root0 tag0=false:=by decide+kernel
theorem v_gen3:genF key0 4 3 next0 tag0=false:=by decide+kernel
theorem v_sign:signF key0 4 ex=(tag0,0):=by kernel_rfl
theorem v_cg:digest_VerifyExtension.f root0 3 next0 4 q0=some true:=by decide+kernel
theorem v_cg2:digest_VerifyExtension.f next0 3 root0 4 q0=some false:=by decide+kernel
theorem v_fit:fits p0:=by decide+kernel
theorem v_add0:logbook_Add.f 9 4 ex 19 1 0 0 ⟨#[]⟩=some (0,[],350):=by kernel_rfl
theorem v_add:logbook_Add.f 9 4 ex 20 3 0 0 ⟨#[]⟩=some (4,ex4,0):=by kernel_rfl
theorem v_next:next0.size=32:=by decide+kernel
end Go.Proofs.YtfdlmpicmkpabaaDoor.Ext
end
section
namespace Go.Proofs.YtfdlmpicmkpabaaDoor.Ext
set_option maxRecDepth 100000
open Go.RowKit Go.Proofs.YtfdlmpicmkpabaaDoorW.PrintWords Go.Proofs.YtfdlmpicmkpabaaDoorW.PrintLast Go.Proofs.YtfdlmpicmkpabaaDoorW.PrintMore Go.Proofs.YtfdlmpicmkpabaaDoor.PB
attribute [local go_sem] Oper.semAt_some
def Row{α:Type}(d:Kd α)(w w':World)(A:Option Addr)(n c:Nat)(l:List α):Prop:=Kd.C d w' A n l∧n<=c∧Below w.heap.size w w'
theorem Row.of{α:Type}{d:Kd α}{e:Nat}{w w':World}{v:Value}{l:List α}(n:Nat)(hn:l.length=n)(h:Kd.R d e w' w.heap.size (fun _=>True) v l)(hb:Below w.heap.size w w'):∃A c,v=.slice A n c∧Row d w w' A n c l:=by
 obtain⟨A,c,rfl⟩:=Kd.R_slice h;have:=Kd.R_reads' h;subst hn;exact⟨A,c,rfl,this.2.2,this.2.1,hb⟩
abbrev xe0:Value:=.agg #[.int .i64 10,.int .i64 1,.int .i64 7,.int .i64 (-1),.string ⟨#[110,101,119,115]⟩]
abbrev xe1:Value:=.agg #[.int .i64 20,.int .i64 2,.int .i64 0,.int .i64 5,.string ⟨#[]⟩]
theorem s_ex(w:World):Calls Tryd.prog 41 #[] w fun e w'=>∃A c,e=.returned (.agg #[.int .i64 4,.slice A 3 c])∧Row kRec w w' A 3 c ex:=by
 refine (airchecklaw35_example.calls 4 ex w rfl).mono ?_
 rintro e w' ⟨v,rfl,hR,hb⟩
 obtain⟨A,c,rfl,h⟩:=Row.of 3 rfl hR hb;exact⟨A,c,rfl,h⟩
theorem s_enc(w:World):Calls Tryd.prog 20 #[xe0] w fun e w'=>e=.returned (.tuple #[.string s0,.int .i64 0])∧Below w.heap.size w w':=
 logbook_Encode.calls 10 1 7 (-1) ⟨#[110,101,119,115]⟩ s0 0 w (congrArg some v_enc)
theorem s_dec(w:World):Calls Tryd.prog 21 #[.string s0] w fun e w'=>e=.returned (.tuple #[xe0,.int .i64 0])∧Below w.heap.size w w':=
 logbook_Decode.calls s0 10 1 7 (-1) ⟨#[110,101,119,115]⟩ 0 w (by unfold logbook_Decode.f;rw[if_pos (by decide+kernel),v_dec];rfl)
theorem s_head(w:World)(hG:GL w)(A:Option Addr)(c:Nat)(hC:Kd.C kRec w A 3 ex)(hc:3<=c):Calls Tryd.prog 13 #[.agg #[.int .i64 4,.slice A 3 c]] w fun e w'=>e=.returned (.tuple #[.string root0,.int .i64 0])∧Below w.heap.size w w':=
 logbook_Head.calls 4 A c ex root0 0 w hC hc hG (by unfold logbook_Head.f;rw[if_pos (by decide+kernel),v_head])
theorem s_head4(w:World)(hG:GL w)(A:Option Addr)(c:Nat)(hC:Kd.C kRec w A 4 ex4)(hc:4<=c):Calls Tryd.prog 13 #[.agg #[.int .i64 4,.slice A 4 c]] w fun e w'=>e=.returned (.tuple #[.string next0,.int .i64 0])∧Below w.heap.size w w':=
 logbook_Head.calls 4 A c ex4 next0 0 w hC hc hG (by unfold logbook_Head.f;rw[if_pos (by decide+kernel),v_head4])
theorem s_prove(w:World)(hG:GL w)(A:Option Addr)(c:Nat)(hC:Kd.C kRec w A 3 ex)(hc:3<=c):Calls Tryd.prog 34 #[.agg #[.int .i64 4,.slice A 3 c],.int .i64 1] w fun e w'=>∃B d,e=.returned (.tuple #[.slice B 2 d,.int .i64 0])∧Row Kd.string w w' B 2 d p0:=by
 refine (logbook_Prove.calls 4 A c ex 1 p0 0 w hC hc hG (by unfold logbook_Prove.f;rw[if_pos (by decide+kernel),v_prove])).mono ?_
 rintro e w' ⟨v,rfl,hR,hb⟩
 obtain⟨A,c,rfl,h⟩:=Row.of 2 v_pl hR hb;exact⟨A,c,rfl,h⟩
theorem s_grown(w:World)(hG:GL w)(A:Option Addr)(c:Nat)(hC:Kd.C kRec w A 4 ex4)(hc:4<=c):Calls Tryd.prog 42 #[.agg #[.int .i64 4,.slice A 4 c],.int .i64 3] w fun e w'=>∃B d,e=.returned (.tuple #[.slice B 3 d,.int .i64 0])∧Row Kd.string w w' B 3 d q0:=by
 refine (logbook_Grown.calls 4 A c ex4 3 q0 0 w hC hc hG (by unfold logbook_Grown.f;rw[if_pos (by decide+kernel),v_grown])).mono ?_
 rintro e w' ⟨v,rfl,hR,hb⟩
 obtain⟨A,c,rfl,h⟩:=Row.of 3 v_ql hR hb;exact⟨A,c,rfl,h⟩
theorem s_add0(w:World)(A:Option Addr)(c:Nat)(hC:Kd.C kRec w A 3 ex)(hc:3<=c):Calls Tryd.prog 24 #[.agg #[.int .i64 4,.slice A 3 c],.agg #[.int .i64 19,.int .i64 1,.int .i64 0,.int .i64 0,.string ⟨#[]⟩]] w fun e w'=>∃B d,e=.returned (.tuple #[.agg #[.int .i64 0,.slice B 0 d],.int .i64 350])∧Below w.heap.size w w':=by
 refine (logbook_Add.calls 9 4 A c ex 19 1 0 0 ⟨#[]⟩ 0 [] 350 w hC hc v_add0).mono ?_
 rintro e w' ⟨v,rfl,hR,hb⟩
 obtain⟨A,c,rfl,h⟩:=Row.of 0 rfl hR hb;exact⟨A,c,rfl,hb⟩
theorem s_add(w:World)(A:Option Addr)(c:Nat)(hC:Kd.C kRec w A 3 ex)(hc:3<=c):Calls Tryd.prog 24 #[.agg #[.int .i64 4,.slice A 3 c],.agg #[.int .i64 20,.int .i64 3,.int .i64 0,.int .i64 0,.string ⟨#[]⟩]] w fun e w'=>∃B d,e=.returned (.tuple #[.agg #[.int .i64 4,.slice B 4 d],.int .i64 0])∧Row kRec w w' B 4 d ex4:=by
 refine (logbook_Add.calls 9 4 A c ex 20 3 0 0 ⟨#[]⟩ 4 ex4 0 w hC hc v_add).mono ?_
 rintro e w' ⟨v,rfl,hR,hb⟩
 obtain⟨A,c,rfl,h⟩:=Row.of 4 rfl hR hb;exact⟨A,c,rfl,h⟩
theorem s_sign(w:World)(hG:GL w)(A:Option Addr)(c:Nat)(hC:Kd.C kRec w A 3 ex)(hc:3<=c):Calls Tryd.prog 12 #[.string key0,.agg #[.int .i64 4,.slice A 3 c]] w fun e w'=>e=.returned (.tuple #[.string tag0,.int .i64 0])∧Below w.heap.size w w':=
 logbook_Sign.calls key0 4 A c ex tag0 0 w hC hc hG (by unfold logbook_Sign.f;rw[if_pos ⟨by decide+kernel,by rw[v_key];decide⟩,v_sign])
theorem s_check(w:World)(hG:GL w)(B:Option Addr)(d:Nat)(i:Int)(r:Bool)(hi:i=1∧r=true∨i=0∧r=false)(hC:Kd.C Kd.string w B 2 p0)(hd:2<=d):Calls Tryd.prog 35 #[.string root0,.int .i64 3,.int .i64 i,xe1,.slice B 2 d] w fun e w'=>e=.returned (.bool r)∧Below w.heap.size w w':=by
 have:=logbook_Check.calls root0 3 i 20 2 0 5 ⟨#[]⟩ B d p0 r w (by rw[v_pl];exact hC) (by rw[v_pl];exact hd) hG (by
  unfold logbook_Check.f;rcases hi with ⟨rfl,rfl⟩ |⟨rfl,rfl⟩
  ·rw[if_pos ⟨v_fit,by decide,by decide⟩];exact congrArg some v_check
  ·rw[if_pos ⟨v_fit,by decide,by decide⟩];exact congrArg some v_check0)
 rw[v_pl] at this;exact this
theorem s_cg(w:World)(hG:GL w)(B:Option Addr)(d:Nat)(x y:ByteArray)(r:Bool)(h:digest_VerifyExtension.f x 3 y 4 q0=some r)(hC:Kd.C Kd.string w B 3 q0)(hd:3<=d):Calls Tryd.prog 43 #[.string x,.int .i64 3,.string y,.int .i64 4,.slice B 3 d] w fun e w'=>e=.returned (.bool r)∧Below w.heap.size w w':=by
 have:=logbook_CheckGrown.calls x 3 y 4 B d q0 r w (by rw[v_ql];exact hC) (by rw[v_ql];exact hd) hG h;rw[v_ql] at this;exact this
theorem s_gen(w:World)(hG:GL w)(st:Int)(x:ByteArray)(hx:x.size=32)(r:Bool)(h:genF key0 st 3 x tag0=r):Calls Tryd.prog 14 #[.string key0,.int .i64 st,.int .i64 3,.string x,.string tag0] w fun e w'=>e=.returned (.bool r)∧Below w.heap.size w w':=
 logbook_Genuine.calls key0 st 3 x tag0 r w hG (by unfold logbook_Genuine.f;rw[if_pos ⟨by rw[v_key];decide,by rw[hx];decide⟩,h])
theorem s_find(w:World)(A:Option Addr)(c:Nat)(t r:Int)(h:findF 4 ex 1 t=r)(hC:Kd.C kRec w A 3 ex)(hc:3<=c):Calls Tryd.prog 29 #[.agg #[.int .i64 4,.slice A 3 c],.int .i64 1,.int .i64 t] w fun e w'=>e=.returned (.int .i64 r)∧Below w.heap.size w w':=
 logbook_Find.calls 4 A c ex 1 t r w hC hc (by unfold logbook_Find.f;rw[if_pos (by decide+kernel),h])
theorem s_valid(w:World)(A:Option Addr)(c:Nat)(hC:Kd.C kRec w A 3 ex)(hc:3<=c):Calls Tryd.prog 26 #[.agg #[.int .i64 4,.slice A 3 c]] w fun e w'=>e=.returned (.bool true)∧Below w.heap.size w w':=by
 have:=valid_walk 4 A 3 c ex rfl w hC hc (by decide);rw[show validB 4 ex=true from v_valid] at this;exact this
theorem s_valid0(w:World):Calls Tryd.prog 26 #[.agg #[.int .i64 100,.slice none 0 0]] w fun e w'=>e=.returned (.bool false)∧Below w.heap.size w w':=by
 have:=valid_walk 100 none 0 0 [] rfl w (Kd.C_nil _ _) (Nat.le_refl _) (by decide);rw[v_valid0] at this;exact this
theorem row0{w:World}{A:Option Addr}(h:Kd.C kRec w A 3 ex):∃ad,A=some ad∧w.cell? ad=some (.int .i64 10)∧w.cell? ⟨ad.block,ad.off+1,none⟩=some (.int .i64 1)∧w.cell? ⟨ad.block,ad.off+2,none⟩=some (.int .i64 7)∧w.cell? ⟨ad.block,ad.off+3,none⟩=some (.int .i64 (-1))∧w.cell? ⟨ad.block,ad.off+4,none⟩=some (.string ⟨#[110,101,119,115]⟩):=by
 obtain⟨ad,hA,z0,z1,z2,z3,z4⟩:=at_T43 h 0 (by omega) (by omega);exact⟨ad,hA,z0,z1,z2,z3,z4⟩
theorem row1{w:World}{A:Option Addr}(h:Kd.C kRec w A 3 ex):∃ad,A=some ad∧w.cell? ⟨ad.block,ad.off+5,none⟩=some (.int .i64 20)∧w.cell? ⟨ad.block,ad.off+5+1,none⟩=some (.int .i64 2)∧w.cell? ⟨ad.block,ad.off+5+2,none⟩=some (.int .i64 0)∧w.cell? ⟨ad.block,ad.off+5+3,none⟩=some (.int .i64 5)∧w.cell? ⟨ad.block,ad.off+5+4,none⟩=some (.string ⟨#[]⟩):=by
 obtain⟨ad,hA,z0,z1,z2,z3,z4⟩:=at_T43 h 1 (by omega) (by omega);exact⟨ad,hA,z0,z1,z2,z3,z4⟩
set_option maxRecDepth 100000 in
set_option maxHeartbeats 8000000 in
theorem sane_walk(hKey:∀w:World,Calls Tryd.prog 11 #[.int .i64 1] w fun e w'=>e=.returned (.string key0)∧Below w.heap.size w w')(w:World)(hG:GL w):Calls Tryd.prog 9 #[] w fun e w'=>e=.returned (.bool true)∧Below w.heap.size w w':=by
 have HK:=Lib.hid hKey;have HG:=Lib.hid hG;clear hKey hG
 go_enter Tryd.func9,Tryd.ntmps9
 have HW:=Lib.hid (Below.refl w.heap.size w)
 go_wp2_with fail
 refine (s_ex w).mono ?_
 rintro e w1 ⟨A,c,rfl,h⟩
 have HG:=Lib.hid (HG.out.below h.2.2);have HW:=Lib.hid (Below.trans HW.out (h.2.2.mono HW.out.size));have HC:=Lib.hid (And.intro h.1 h.2.1);clear h
 go_upto_region 2 with fail
 have hn:Below w1.heap.size w1 (w1.alloc (.cells #[.int .i64 4,.slice A 3 c] 26)):=(Below.refl _ _).alloc (Nat.le_refl _) _;have HL:=Lib.hid (Blk.newA w1 26 #[.int .i64 4,.slice A 3 c] [.int .i64 4,.slice A 3 c] rfl);have HC:=Lib.hid (And.intro (Kd.C_below HC.out.1 hn) HC.out.2);have HG:=Lib.hid (HG.out.below hn);have HW:=Lib.hid (Below.trans HW.out (hn.mono HW.out.size));clear hn;generalize w1.alloc (.cells #[.int .i64 4,.slice A 3 c] 26)=W1 at*
 generalize w1.heap.size=gHL at*
 have x0:=HL.out.cell (j:=0) rfl;have x1:=HL.out.cell (j:=1) rfl;obtain⟨ad,rfl,z0,z1,z2,z3,z4⟩:=row0 HC.out.1
 go_wp2_with fail
 clear x0 x1;clear z0 z1 z2 z3 z4;refine (s_enc W1).mono ?_
 rintro e w2 ⟨rfl,h⟩
 have HC:=Lib.hid (And.intro (Kd.C_below HC.out.1 h) HC.out.2);have HL:=Lib.hid (HL.out.belowS h);have HG:=Lib.hid (HG.out.below h);have HW:=Lib.hid (Below.trans HW.out (h.mono HW.out.size));clear h
 go_wp2_with fail
 refine (s_dec w2).mono ?_
 rintro e w3 ⟨rfl,h⟩
 have HC:=Lib.hid (And.intro (Kd.C_below HC.out.1 h) HC.out.2);have HL:=Lib.hid (HL.out.belowS h);have HG:=Lib.hid (HG.out.below h);have HW:=Lib.hid (Below.trans HW.out (h.mono HW.out.size));clear h;have x0:=c_old (o:=.cells #[.int .i64 10,.int .i64 1,.int .i64 7,.int .i64 (-1),.string ⟨#[110,101,119,115]⟩] 43) (HL.out.cell (j:=0) rfl);have x1:=c_old (o:=.cells #[.int .i64 10,.int .i64 1,.int .i64 7,.int .i64 (-1),.string ⟨#[110,101,119,115]⟩] 43) (HL.out.cell (j:=1) rfl)
 go_wp2_with fail
 clear x0 x1;have hn:Below w3.heap.size w3 (w3.alloc (.cells #[.int .i64 10,.int .i64 1,.int .i64 7,.int .i64 (-1),.string ⟨#[110,101,119,115]⟩] 43)):=(Below.refl _ _).alloc (Nat.le_refl _) _;have HX:=Lib.hid (Blk.newA w3 43 #[.int .i64 10,.int .i64 1,.int .i64 7,.int .i64 (-1),.string ⟨#[110,101,119,115]⟩] [.int .i64 10,.int .i64 1,.int .i64 7,.int .i64 (-1),.string ⟨#[110,101,119,115]⟩] rfl);have HC:=Lib.hid (And.intro (Kd.C_below HC.out.1 hn) HC.out.2);have HL:=Lib.hid (HL.out.belowS hn);have HG:=Lib.hid (HG.out.below hn);have HW:=Lib.hid (Below.trans HW.out (hn.mono HW.out.size));clear hn;generalize w3.alloc (.cells #[.int .i64 10,.int .i64 1,.int .i64 7,.int .i64 (-1),.string ⟨#[110,101,119,115]⟩] 43)=W3 at*
 generalize w3.heap.size=gHX at*
 refine (s_head W3 HG.out (some ad) c HC.out.1 HC.out.2).mono ?_
 rintro e w4 ⟨rfl,h⟩
 have HC:=Lib.hid (And.intro (Kd.C_below HC.out.1 h) HC.out.2);have HL:=Lib.hid (HL.out.belowS h);have HX:=Lib.hid (HX.out.belowS h);have HG:=Lib.hid (HG.out.below h);have HW:=Lib.hid (Below.trans HW.out (h.mono HW.out.size));clear h;have x0:=HL.out.cell (j:=0) rfl;have x1:=HL.out.cell (j:=1) rfl
 go_wp2_with fail
 clear x0 x1;refine (s_prove w4 HG.out (some ad) c HC.out.1 HC.out.2).mono ?_
 rintro e w5 ⟨P,d,rfl,h⟩
 have HC:=Lib.hid (And.intro (Kd.C_below HC.out.1 h.2.2) HC.out.2);have HL:=Lib.hid (HL.out.belowS h.2.2);have HX:=Lib.hid (HX.out.belowS h.2.2);have HG:=Lib.hid (HG.out.below h.2.2);have HW:=Lib.hid (Below.trans HW.out (h.2.2.mono HW.out.size));have HP:=Lib.hid (And.intro h.1 h.2.1);clear h;have x0:=HL.out.cell (j:=0) rfl;have x1:=HL.out.cell (j:=1) rfl
 go_wp2_with fail
 clear x0 x1;refine (s_add0 w5 (some ad) c HC.out.1 HC.out.2).mono ?_
 rintro e w6 ⟨B6,d6,rfl,h⟩
 have HC:=Lib.hid (And.intro (Kd.C_below HC.out.1 h) HC.out.2);have HL:=Lib.hid (HL.out.belowS h);have HX:=Lib.hid (HX.out.belowS h);have HP:=Lib.hid (And.intro (Kd.C_below HP.out.1 h) HP.out.2);have HG:=Lib.hid (HG.out.below h);have HW:=Lib.hid (Below.trans HW.out (h.mono HW.out.size));clear h;have x0:=c_old (o:=.cells #[.int .i64 0,.slice B6 0 d6] 26) (HL.out.cell (j:=0) rfl);have x1:=c_old (o:=.cells #[.int .i64 0,.slice B6 0 d6] 26) (HL.out.cell (j:=1) rfl)
 go_wp2_with fail
 clear x0 x1;have hn:Below w6.heap.size w6 (w6.alloc (.cells #[.int .i64 0,.slice B6 0 d6] 26)):=(Below.refl _ _).alloc (Nat.le_refl _) _;have HN:=Lib.hid (Blk.newA w6 26 #[.int .i64 0,.slice B6 0 d6] [.int .i64 0,.slice B6 0 d6] rfl);have HC:=Lib.hid (And.intro (Kd.C_below HC.out.1 hn) HC.out.2);have HL:=Lib.hid (HL.out.belowS hn);have HX:=Lib.hid (HX.out.belowS hn);have HP:=Lib.hid (And.intro (Kd.C_below HP.out.1 hn) HP.out.2);have HG:=Lib.hid (HG.out.below hn);have HW:=Lib.hid (Below.trans HW.out (hn.mono HW.out.size));clear hn;generalize w6.alloc (.cells #[.int .i64 0,.slice B6 0 d6] 26)=W6 at*
 generalize w6.heap.size=gHN at*
 clear HN;refine (s_add W6 (some ad) c HC.out.1 HC.out.2).mono ?_
 rintro e w7 ⟨M,k,rfl,h⟩
 have HC:=Lib.hid (And.intro (Kd.C_below HC.out.1 h.2.2) HC.out.2);have HL:=Lib.hid (HL.out.belowS h.2.2);have HX:=Lib.hid (HX.out.belowS h.2.2);have HP:=Lib.hid (And.intro (Kd.C_below HP.out.1 h.2.2) HP.out.2);have HG:=Lib.hid (HG.out.below h.2.2);have HW:=Lib.hid (Below.trans HW.out (h.2.2.mono HW.out.size));have HM:=Lib.hid (And.intro h.1 h.2.1);clear h
 go_wp2_with fail
 have hn:Below w7.heap.size w7 (w7.alloc (.cells #[.int .i64 4,.slice M 4 k] 26)):=(Below.refl _ _).alloc (Nat.le_refl _) _;have HY:=Lib.hid (Blk.newA w7 26 #[.int .i64 4,.slice M 4 k] [.int .i64 4,.slice M 4 k] rfl);have HC:=Lib.hid (And.intro (Kd.C_below HC.out.1 hn) HC.out.2);have HL:=Lib.hid (HL.out.belowS hn);have HX:=Lib.hid (HX.out.belowS hn);have HP:=Lib.hid (And.intro (Kd.C_below HP.out.1 hn) HP.out.2);have HM:=Lib.hid (And.intro (Kd.C_below HM.out.1 hn) HM.out.2);have HG:=Lib.hid (HG.out.below hn);have HW:=Lib.hid (Below.trans HW.out (hn.mono HW.out.size));clear hn;generalize w7.alloc (.cells #[.int .i64 4,.slice M 4 k] 26)=W7 at*
 generalize w7.heap.size=gHY at*
 refine (s_grown W7 HG.out M k HM.out.1 HM.out.2).mono ?_
 rintro e w8 ⟨Q,q,rfl,h⟩
 have HC:=Lib.hid (And.intro (Kd.C_below HC.out.1 h.2.2) HC.out.2);have HL:=Lib.hid (HL.out.belowS h.2.2);have HX:=Lib.hid (HX.out.belowS h.2.2);have HP:=Lib.hid (And.intro (Kd.C_below HP.out.1 h.2.2) HP.out.2);have HM:=Lib.hid (And.intro (Kd.C_below HM.out.1 h.2.2) HM.out.2);have HY:=Lib.hid (HY.out.belowS h.2.2);have HG:=Lib.hid (HG.out.below h.2.2);have HW:=Lib.hid (Below.trans HW.out (h.2.2.mono HW.out.size));have HQ:=Lib.hid (And.intro h.1 h.2.1);clear h;have x0:=HY.out.cell (j:=0) rfl;have x1:=HY.out.cell (j:=1) rfl
 go_wp2_with fail
 clear x0 x1;refine (s_head4 w8 HG.out M k HM.out.1 HM.out.2).mono ?_
 rintro e w9 ⟨rfl,h⟩
 have HC:=Lib.hid (And.intro (Kd.C_below HC.out.1 h) HC.out.2);have HL:=Lib.hid (HL.out.belowS h);have HX:=Lib.hid (HX.out.belowS h);have HP:=Lib.hid (And.intro (Kd.C_below HP.out.1 h) HP.out.2);have HM:=Lib.hid (And.intro (Kd.C_below HM.out.1 h) HM.out.2);have HY:=Lib.hid (HY.out.belowS h);have HQ:=Lib.hid (And.intro (Kd.C_below HQ.out.1 h) HQ.out.2);have HG:=Lib.hid (HG.out.below h);have HW:=Lib.hid (Below.trans HW.out (h.mono HW.out.size));clear h
 go_wp2_with fail
 refine (HK.out w9).mono ?_
 rintro e w10 ⟨rfl,h⟩
 have HC:=Lib.hid (And.intro (Kd.C_below HC.out.1 h) HC.out.2);have HL:=Lib.hid (HL.out.belowS h);have HX:=Lib.hid (HX.out.belowS h);have HP:=Lib.hid (And.intro (Kd.C_below HP.out.1 h) HP.out.2);have HM:=Lib.hid (And.intro (Kd.C_below HM.out.1 h) HM.out.2);have HY:=Lib.hid (HY.out.belowS h);have HQ:=Lib.hid (And.intro (Kd.C_below HQ.out.1 h) HQ.out.2);have HG:=Lib.hid (HG.out.below h);have HW:=Lib.hid (Below.trans HW.out (h.mono HW.out.size));clear h;have x0:=HL.out.cell (j:=0) rfl;have x1:=HL.out.cell (j:=1) rfl
 go_wp2_with fail
 clear x0 x1;refine (s_sign w10 HG.out (some ad) c HC.out.1 HC.out.2).mono ?_
 rintro e w11 ⟨rfl,h⟩
 have HC:=Lib.hid (And.intro (Kd.C_below HC.out.1 h) HC.out.2);have HL:=Lib.hid (HL.out.belowS h);have HX:=Lib.hid (HX.out.belowS h);have HP:=Lib.hid (And.intro (Kd.C_below HP.out.1 h) HP.out.2);have HM:=Lib.hid (And.intro (Kd.C_below HM.out.1 h) HM.out.2);have HY:=Lib.hid (HY.out.belowS h);have HQ:=Lib.hid (And.intro (Kd.C_below HQ.out.1 h) HQ.out.2);have HG:=Lib.hid (HG.out.below h);have HW:=Lib.hid (Below.trans HW.out (h.mono HW.out.size));clear h
 go_upto_region 14 with fail
 have x0:=HL.out.cell (j:=0) rfl;have x1:=HL.out.cell (j:=1) rfl;obtain⟨ad',eA,z0,z1,z2,z3,z4⟩:=row1 HC.out.1;injection eA with eA
 subst eA
 go_wp2_with fail
 clear x0 x1;clear z0 z1 z2 z3 z4;refine (s_check w11 HG.out P d 1 true (Or.inl ⟨rfl,rfl⟩) HP.out.1 HP.out.2).mono ?_
 rintro e w12 ⟨rfl,h⟩
 have HC:=Lib.hid (And.intro (Kd.C_below HC.out.1 h) HC.out.2);have HL:=Lib.hid (HL.out.belowS h);have HX:=Lib.hid (HX.out.belowS h);have HP:=Lib.hid (And.intro (Kd.C_below HP.out.1 h) HP.out.2);have HM:=Lib.hid (And.intro (Kd.C_below HM.out.1 h) HM.out.2);have HY:=Lib.hid (HY.out.belowS h);have HQ:=Lib.hid (And.intro (Kd.C_below HQ.out.1 h) HQ.out.2);have HG:=Lib.hid (HG.out.below h);have HW:=Lib.hid (Below.trans HW.out (h.mono HW.out.size));clear h;have x0:=HL.out.cell (j:=0) rfl;have x1:=HL.out.cell (j:=1) rfl;obtain⟨ad',eA,z0,z1,z2,z3,z4⟩:=row1 HC.out.1;injection eA with eA
 subst eA
 go_wp2_with fail
 clear x0 x1;clear z0 z1 z2 z3 z4;refine (s_check w12 HG.out P d 0 false (Or.inr ⟨rfl,rfl⟩) HP.out.1 HP.out.2).mono ?_
 rintro e w13 ⟨rfl,h⟩
 have HC:=Lib.hid (And.intro (Kd.C_below HC.out.1 h) HC.out.2);have HL:=Lib.hid (HL.out.belowS h);have HX:=Lib.hid (HX.out.belowS h);have HP:=Lib.hid (And.intro (Kd.C_below HP.out.1 h) HP.out.2);have HM:=Lib.hid (And.intro (Kd.C_below HM.out.1 h) HM.out.2);have HY:=Lib.hid (HY.out.belowS h);have HQ:=Lib.hid (And.intro (Kd.C_below HQ.out.1 h) HQ.out.2);have HG:=Lib.hid (HG.out.below h);have HW:=Lib.hid (Below.trans HW.out (h.mono HW.out.size));clear h
 go_wp2_with fail
 refine (s_cg w13 HG.out Q q root0 next0 true v_cg HQ.out.1 HQ.out.2).mono ?_
 rintro e w14 ⟨rfl,h⟩
 have HC:=Lib.hid (And.intro (Kd.C_below HC.out.1 h) HC.out.2);have HL:=Lib.hid (HL.out.belowS h);have HX:=Lib.hid (HX.out.belowS h);have HP:=Lib.hid (And.intro (Kd.C_below HP.out.1 h) HP.out.2);have HM:=Lib.hid (And.intro (Kd.C_below HM.out.1 h) HM.out.2);have HY:=Lib.hid (HY.out.belowS h);have HQ:=Lib.hid (And.intro (Kd.C_below HQ.out.1 h) HQ.out.2);have HG:=Lib.hid (HG.out.below h);have HW:=Lib.hid (Below.trans HW.out (h.mono HW.out.size));clear h
 go_wp2_with fail
 refine (s_cg w14 HG.out Q q next0 root0 false v_cg2 HQ.out.1 HQ.out.2).mono ?_
 rintro e w15 ⟨rfl,h⟩
 have HC:=Lib.hid (And.intro (Kd.C_below HC.out.1 h) HC.out.2);have HL:=Lib.hid (HL.out.belowS h);have HX:=Lib.hid (HX.out.belowS h);have HP:=Lib.hid (And.intro (Kd.C_below HP.out.1 h) HP.out.2);have HM:=Lib.hid (And.intro (Kd.C_below HM.out.1 h) HM.out.2);have HY:=Lib.hid (HY.out.belowS h);have HQ:=Lib.hid (And.intro (Kd.C_below HQ.out.1 h) HQ.out.2);have HG:=Lib.hid (HG.out.below h);have HW:=Lib.hid (Below.trans HW.out (h.mono HW.out.size));clear h
 go_wp2_with fail
 refine (s_gen w15 HG.out 4 root0 v_root true v_gen).mono ?_
 rintro e w16 ⟨rfl,h⟩
 have HC:=Lib.hid (And.intro (Kd.C_below HC.out.1 h) HC.out.2);have HL:=Lib.hid (HL.out.belowS h);have HX:=Lib.hid (HX.out.belowS h);have HP:=Lib.hid (And.intro (Kd.C_below HP.out.1 h) HP.out.2);have HM:=Lib.hid (And.intro (Kd.C_below HM.out.1 h) HM.out.2);have HY:=Lib.hid (HY.out.belowS h);have HQ:=Lib.hid (And.intro (Kd.C_below HQ.out.1 h) HQ.out.2);have HG:=Lib.hid (HG.out.below h);have HW:=Lib.hid (Below.trans HW.out (h.mono HW.out.size));clear h
 go_wp2_with fail
 refine (s_gen w16 HG.out 5 root0 v_root false v_gen2).mono ?_
 rintro e w17 ⟨rfl,h⟩
 have HC:=Lib.hid (And.intro (Kd.C_below HC.out.1 h) HC.out.2);have HL:=Lib.hid (HL.out.belowS h);have HX:=Lib.hid (HX.out.belowS h);have HP:=Lib.hid (And.intro (Kd.C_below HP.out.1 h) HP.out.2);have HM:=Lib.hid (And.intro (Kd.C_below HM.out.1 h) HM.out.2);have HY:=Lib.hid (HY.out.belowS h);have HQ:=Lib.hid (And.intro (Kd.C_below HQ.out.1 h) HQ.out.2);have HG:=Lib.hid (HG.out.below h);have HW:=Lib.hid (Below.trans HW.out (h.mono HW.out.size));clear h
 go_wp2_with fail
 refine (s_gen w17 HG.out 4 next0 v_next false v_gen3).mono ?_
 rintro e w18 ⟨rfl,h⟩
 have HC:=Lib.hid (And.intro (Kd.C_below HC.out.1 h) HC.out.2);have HL:=Lib.hid (HL.out.belowS h);have HX:=Lib.hid (HX.out.belowS h);have HP:=Lib.hid (And.intro (Kd.C_below HP.out.1 h) HP.out.2);have HM:=Lib.hid (And.intro (Kd.C_below HM.out.1 h) HM.out.2);have HY:=Lib.hid (HY.out.belowS h);have HQ:=Lib.hid (And.intro (Kd.C_below HQ.out.1 h) HQ.out.2);have HG:=Lib.hid (HG.out.below h);have HW:=Lib.hid (Below.trans HW.out (h.mono HW.out.size));clear h;have x0:=HL.out.cell (j:=0) rfl;have x1:=HL.out.cell (j:=1) rfl
 go_wp2_with fail
 clear x0 x1;refine (s_find w18 (some ad) c 9 (-1) v_find1 HC.out.1 HC.out.2).mono ?_
 rintro e w19 ⟨rfl,h⟩
 have HC:=Lib.hid (And.intro (Kd.C_below HC.out.1 h) HC.out.2);have HL:=Lib.hid (HL.out.belowS h);have HX:=Lib.hid (HX.out.belowS h);have HP:=Lib.hid (And.intro (Kd.C_below HP.out.1 h) HP.out.2);have HM:=Lib.hid (And.intro (Kd.C_below HM.out.1 h) HM.out.2);have HY:=Lib.hid (HY.out.belowS h);have HQ:=Lib.hid (And.intro (Kd.C_below HQ.out.1 h) HQ.out.2);have HG:=Lib.hid (HG.out.below h);have HW:=Lib.hid (Below.trans HW.out (h.mono HW.out.size));clear h;have x0:=HL.out.cell (j:=0) rfl;have x1:=HL.out.cell (j:=1) rfl
 go_wp2_with fail
 clear x0 x1;refine (s_find w19 (some ad) c 19 0 v_find2 HC.out.1 HC.out.2).mono ?_
 rintro e w20 ⟨rfl,h⟩
 have HC:=Lib.hid (And.intro (Kd.C_below HC.out.1 h) HC.out.2);have HL:=Lib.hid (HL.out.belowS h);have HX:=Lib.hid (HX.out.belowS h);have HP:=Lib.hid (And.intro (Kd.C_below HP.out.1 h) HP.out.2);have HM:=Lib.hid (And.intro (Kd.C_below HM.out.1 h) HM.out.2);have HY:=Lib.hid (HY.out.belowS h);have HQ:=Lib.hid (And.intro (Kd.C_below HQ.out.1 h) HQ.out.2);have HG:=Lib.hid (HG.out.below h);have HW:=Lib.hid (Below.trans HW.out (h.mono HW.out.size));clear h;have x0:=HL.out.cell (j:=0) rfl;have x1:=HL.out.cell (j:=1) rfl
 go_wp2_with fail
 clear x0 x1;refine (s_find w20 (some ad) c 20 2 v_find3 HC.out.1 HC.out.2).mono ?_
 rintro e w21 ⟨rfl,h⟩
 have HC:=Lib.hid (And.intro (Kd.C_below HC.out.1 h) HC.out.2);have HL:=Lib.hid (HL.out.belowS h);have HX:=Lib.hid (HX.out.belowS h);have HP:=Lib.hid (And.intro (Kd.C_below HP.out.1 h) HP.out.2);have HM:=Lib.hid (And.intro (Kd.C_below HM.out.1 h) HM.out.2);have HY:=Lib.hid (HY.out.belowS h);have HQ:=Lib.hid (And.intro (Kd.C_below HQ.out.1 h) HQ.out.2);have HG:=Lib.hid (HG.out.below h);have HW:=Lib.hid (Below.trans HW.out (h.mono HW.out.size));clear h
 go_upto_region 17 with fail
 obtain⟨ad',eA,z0,z1,z2,z3,z4⟩:=row0 HC.out.1;injection eA with eA
 subst eA;have x0:=HL.out.cell (j:=0) rfl;have x1:=HL.out.cell (j:=1) rfl;have u0:=HX.out.cell (j:=0) rfl;have u1:=HX.out.cell (j:=1) rfl;have u2:=HX.out.cell (j:=2) rfl;have u3:=HX.out.cell (j:=3) rfl;have u4:=HX.out.cell (j:=4) rfl;have y0:=HY.out.cell (j:=0) rfl;have y1:=HY.out.cell (j:=1) rfl;have hS:w21.drew.cell? ⟨gHL,0,none⟩=some (.int .i64 4)∧w21.drew.cell? ⟨gHL,1,none⟩=some (.slice (some ad) 3 c)∧w21.drew.cell? ⟨gHX,0,none⟩=some (.int .i64 10)∧w21.drew.cell? ⟨gHX,1,none⟩=some (.int .i64 1)∧w21.drew.cell? ⟨gHX,2,none⟩=some (.int .i64 7)∧w21.drew.cell? ⟨gHX,3,none⟩=some (.int .i64 (-1))∧w21.drew.cell? ⟨gHX,4,none⟩=some (.string ⟨#[110,101,119,115]⟩)∧w21.drew.cell? ad=some (.int .i64 10)∧w21.drew.cell? ⟨ad.block,ad.off+1,none⟩=some (.int .i64 1)∧w21.drew.cell? ⟨ad.block,ad.off+2,none⟩=some (.int .i64 7)∧w21.drew.cell? ⟨ad.block,ad.off+3,none⟩=some (.int .i64 (-1))∧w21.drew.cell? ⟨ad.block,ad.off+4,none⟩=some (.string ⟨#[110,101,119,115]⟩)∧w21.drew.cell? ⟨gHY,0,none⟩=some (.int .i64 4)∧w21.drew.cell? ⟨gHY,1,none⟩=some (.slice M 4 k):=⟨x0,x1,u0,u1,u2,u3,u4,z0,z1,z2,z3,z4,y0,y1⟩;have hbd:Below w21.heap.size w21 w21.drew:=below_drew1 (Below.refl _ _);have HC:=Lib.hid (And.intro (Kd.C_below HC.out.1 hbd) HC.out.2);have HL:=Lib.hid (HL.out.belowS hbd);have HX:=Lib.hid (HX.out.belowS hbd);have HP:=Lib.hid (And.intro (Kd.C_below HP.out.1 hbd) HP.out.2);have HM:=Lib.hid (And.intro (Kd.C_below HM.out.1 hbd) HM.out.2);have HY:=Lib.hid (HY.out.belowS hbd);have HQ:=Lib.hid (And.intro (Kd.C_below HQ.out.1 hbd) HQ.out.2);have HG:=Lib.hid (HG.out.below hbd);have HW:=Lib.hid (Below.trans HW.out (hbd.mono HW.out.size));have hKeep:∀W:World,Below w21.drew.heap.size w21.drew W->W.cell? ⟨gHL,0,none⟩=some (.int .i64 4)∧W.cell? ⟨gHL,1,none⟩=some (.slice (some ad) 3 c)∧W.cell? ⟨gHX,0,none⟩=some (.int .i64 10)∧W.cell? ⟨gHX,1,none⟩=some (.int .i64 1)∧W.cell? ⟨gHX,2,none⟩=some (.int .i64 7)∧W.cell? ⟨gHX,3,none⟩=some (.int .i64 (-1))∧W.cell? ⟨gHX,4,none⟩=some (.string ⟨#[110,101,119,115]⟩)∧W.cell? ad=some (.int .i64 10)∧W.cell? ⟨ad.block,ad.off+1,none⟩=some (.int .i64 1)∧W.cell? ⟨ad.block,ad.off+2,none⟩=some (.int .i64 7)∧W.cell? ⟨ad.block,ad.off+3,none⟩=some (.int .i64 (-1))∧W.cell? ⟨ad.block,ad.off+4,none⟩=some (.string ⟨#[110,101,119,115]⟩)∧W.cell? ⟨gHY,0,none⟩=some (.int .i64 4)∧W.cell? ⟨gHY,1,none⟩=some (.slice M 4 k):=fun W hb=>⟨keepB hb x0,keepB hb x1,keepB hb u0,keepB hb u1,keepB hb u2,keepB hb u3,keepB hb u4,keepB hb z0,keepB hb z1,keepB hb z2,keepB hb z3,keepB hb z4,keepB hb y0,keepB hb y1⟩
 have HKP:=Lib.hid hKeep;clear hKeep hbd;clear x0 x1;clear u0 u1 u2 u3 u4;clear z0 z1 z2 z3 z4;clear y0 y1;refine start_ (n:=35) (S:=fun w'=>w'.cell? ⟨gHL,0,none⟩=some (.int .i64 4)∧w'.cell? ⟨gHL,1,none⟩=some (.slice (some ad) 3 c)∧w'.cell? ⟨gHX,0,none⟩=some (.int .i64 10)∧w'.cell? ⟨gHX,1,none⟩=some (.int .i64 1)∧w'.cell? ⟨gHX,2,none⟩=some (.int .i64 7)∧w'.cell? ⟨gHX,3,none⟩=some (.int .i64 (-1))∧w'.cell? ⟨gHX,4,none⟩=some (.string ⟨#[110,101,119,115]⟩)∧w'.cell? ad=some (.int .i64 10)∧w'.cell? ⟨ad.block,ad.off+1,none⟩=some (.int .i64 1)∧w'.cell? ⟨ad.block,ad.off+2,none⟩=some (.int .i64 7)∧w'.cell? ⟨ad.block,ad.off+3,none⟩=some (.int .i64 (-1))∧w'.cell? ⟨ad.block,ad.off+4,none⟩=some (.string ⟨#[110,101,119,115]⟩)∧w'.cell? ⟨gHY,0,none⟩=some (.int .i64 4)∧w'.cell? ⟨gHY,1,none⟩=some (.slice M 4 k)) (ds:=[]) #[false,false,false,false,false,false,false,false,false,false,false,false,false,false,false,false,false,false,false,false,false,false,false,false,false,false,false,false,false,false,false,false,false,false,false] (by kernel_rfl) rfl rfl hS (fun hHeld=>?_);generalize w21.drew=wd at*
 refine pure_ (i:=0) (N:=(some 172)) (v:=?_) (a':=?_) #[true,false,false,false,false,false,false,false,false,false,false,false,false,false,false,false,false,false,false,false,false,false,false,false,false,false,false,false,false,false,false,false,false,false,false] rfl rfl (by kernel_rfl) (fun _ _ _ h=>h) (Or.inl ⟨by rfl,?_⟩) ?_ ?_
 rotate_left
 ·intro w';go_simp
  with_reducible rfl
 rotate_left
 ·simp only[Act.put,List.setIfInBounds_toArray,List.set_cons_zero,List.set_cons_succ,i64_w,i32_w];rfl
 refine pure_ (i:=1) (N:=(some 173)) (v:=?_) (a':=?_) #[true,true,false,false,false,false,false,false,false,false,false,false,false,false,false,false,false,false,false,false,false,false,false,false,false,false,false,false,false,false,false,false,false,false,false] rfl rfl (by kernel_rfl) (fun _ _ _ h=>h) (Or.inl ⟨by rfl,?_⟩) ?_ ?_
 rotate_left
 ·intro w';go_simp
  with_reducible rfl
 rotate_left
 ·simp only[Act.put,List.setIfInBounds_toArray,List.set_cons_zero,List.set_cons_succ,i64_w,i32_w];rfl
 refine pure_ (i:=2) (N:=(some 174)) (v:=?_) (a':=?_) #[true,true,true,false,false,false,false,false,false,false,false,false,false,false,false,false,false,false,false,false,false,false,false,false,false,false,false,false,false,false,false,false,false,false,false] rfl rfl (by kernel_rfl) (fun _ _ _ h=>h) (Or.inl ⟨by rfl,?_⟩) ?_ ?_
 rotate_left
 ·intro w';go_simp
  with_reducible rfl
 rotate_left
 ·simp only[Act.put,List.setIfInBounds_toArray,List.set_cons_zero,List.set_cons_succ,i64_w,i32_w];rfl
 refine take_ (i:=3) (N:=(some 175)) (v:=?_) (a':=?_) #[true,true,true,true,false,false,false,false,false,false,false,false,false,false,false,false,false,false,false,false,false,false,false,false,false,false,false,false,false,false,false,false,false,false,false] rfl rfl (by kernel_rfl) (fun _ _ _ h=>h) (Or.inl ⟨by rfl,?_⟩) hHeld ?_ ?_
 rotate_left
 ·rintro w' ⟨y0,y1,y2,y3,y4,y5,y6,y7,y8,y9,y10,y11,y12,y13⟩
  go_simp
  with_reducible rfl
 rotate_left
 ·simp only[Act.put,List.setIfInBounds_toArray,List.set_cons_zero,List.set_cons_succ,i64_w,i32_w];rfl
 refine pure_ (i:=4) (N:=(some 176)) (v:=?_) (a':=?_) #[true,true,true,true,true,false,false,false,false,false,false,false,false,false,false,false,false,false,false,false,false,false,false,false,false,false,false,false,false,false,false,false,false,false,false] rfl rfl (by kernel_rfl) (fun _ _ _ h=>h) (Or.inl ⟨by rfl,?_⟩) ?_ ?_
 rotate_left
 ·intro w';go_simp
  with_reducible rfl
 rotate_left
 ·simp only[Act.put,List.setIfInBounds_toArray,List.set_cons_zero,List.set_cons_succ,i64_w,i32_w];rfl
 refine take_ (i:=5) (N:=(some 177)) (v:=?_) (a':=?_) #[true,true,true,true,true,true,false,false,false,false,false,false,false,false,false,false,false,false,false,false,false,false,false,false,false,false,false,false,false,false,false,false,false,false,false] rfl rfl (by kernel_rfl) (fun _ _ _ h=>h) (Or.inl ⟨by rfl,?_⟩) hHeld ?_ ?_
 rotate_left
 ·rintro w' ⟨y0,y1,y2,y3,y4,y5,y6,y7,y8,y9,y10,y11,y12,y13⟩
  go_simp
  with_reducible rfl
 rotate_left
 ·simp only[Act.put,List.setIfInBounds_toArray,List.set_cons_zero,List.set_cons_succ,i64_w,i32_w];rfl
 refine pure_ (i:=6) (N:=(some 178)) (v:=?_) (a':=?_) #[true,true,true,true,true,true,true,false,false,false,false,false,false,false,false,false,false,false,false,false,false,false,false,false,false,false,false,false,false,false,false,false,false,false,false] rfl rfl (by kernel_rfl) (fun _ _ _ h=>h) (Or.inl ⟨by rfl,?_⟩) ?_ ?_
 rotate_left
 ·intro w';go_simp
  with_reducible rfl
 rotate_left
 ·simp only[Act.put,List.setIfInBounds_toArray,List.set_cons_zero,List.set_cons_succ,i64_w,i32_w];rfl
 refine take_ (i:=7) (N:=(some 179)) (v:=?_) (a':=?_) #[true,true,true,true,true,true,true,true,false,false,false,false,false,false,false,false,false,false,false,false,false,false,false,false,false,false,false,false,false,false,false,false,false,false,false] rfl rfl (by kernel_rfl) (fun _ _ _ h=>h) (Or.inl ⟨by rfl,?_⟩) hHeld ?_ ?_
 rotate_left
 ·rintro w' ⟨y0,y1,y2,y3,y4,y5,y6,y7,y8,y9,y10,y11,y12,y13⟩
  go_simp
  with_reducible rfl
 rotate_left
 ·simp only[Act.put,List.setIfInBounds_toArray,List.set_cons_zero,List.set_cons_succ,i64_w,i32_w];rfl
 refine pure_ (i:=8) (N:=(some 180)) (v:=?_) (a':=?_) #[true,true,true,true,true,true,true,true,true,false,false,false,false,false,false,false,false,false,false,false,false,false,false,false,false,false,false,false,false,false,false,false,false,false,false] rfl rfl (by kernel_rfl) (fun _ _ _ h=>h) (Or.inl ⟨by rfl,?_⟩) ?_ ?_
 rotate_left
 ·intro w';go_simp
  with_reducible rfl
 rotate_left
 ·simp only[Act.put,List.setIfInBounds_toArray,List.set_cons_zero,List.set_cons_succ,i64_w,i32_w];rfl
 refine pure_ (i:=9) (N:=(some 181)) (v:=?_) (a':=?_) #[true,true,true,true,true,true,true,true,true,true,false,false,false,false,false,false,false,false,false,false,false,false,false,false,false,false,false,false,false,false,false,false,false,false,false] rfl rfl (by kernel_rfl) (fun _ _ _ h=>h) (Or.inl ⟨by rfl,?_⟩) ?_ ?_
 rotate_left
 ·intro w';go_simp
  with_reducible rfl
 rotate_left
 ·simp only[Act.put,List.setIfInBounds_toArray,List.set_cons_zero,List.set_cons_succ,i64_w,i32_w];rfl
 refine pure_ (i:=10) (N:=(some 182)) (v:=?_) (a':=?_) #[true,true,true,true,true,true,true,true,true,true,true,false,false,false,false,false,false,false,false,false,false,false,false,false,false,false,false,false,false,false,false,false,false,false,false] rfl rfl (by kernel_rfl) (fun _ _ _ h=>h) (Or.inl ⟨by rfl,?_⟩) ?_ ?_
 rotate_left
 ·intro w';go_simp
  with_reducible rfl
 rotate_left
 ·simp only[Act.put,List.setIfInBounds_toArray,List.set_cons_zero,List.set_cons_succ,i64_w,i32_w];rfl
 refine pure_ (i:=11) (N:=(some 183)) (v:=?_) (a':=?_) #[true,true,true,true,true,true,true,true,true,true,true,true,false,false,false,false,false,false,false,false,false,false,false,false,false,false,false,false,false,false,false,false,false,false,false] rfl rfl (by kernel_rfl) (fun _ _ _ h=>h) (Or.inl ⟨by rfl,?_⟩) ?_ ?_
 rotate_left
 ·intro w';go_simp
  with_reducible rfl
 rotate_left
 ·simp only[Act.put,List.setIfInBounds_toArray,List.set_cons_zero,List.set_cons_succ,i64_w,i32_w];rfl
 refine pure_ (i:=12) (N:=(some 184)) (v:=?_) (a':=?_) #[true,true,true,true,true,true,true,true,true,true,true,true,true,false,false,false,false,false,false,false,false,false,false,false,false,false,false,false,false,false,false,false,false,false,false] rfl rfl (by kernel_rfl) (fun _ _ _ h=>h) (Or.inl ⟨by rfl,?_⟩) ?_ ?_
 rotate_left
 ·intro w';go_simp
  with_reducible rfl
 rotate_left
 ·simp only[Act.put,List.setIfInBounds_toArray,List.set_cons_zero,List.set_cons_succ,i64_w,i32_w];rfl
 refine pure_ (i:=13) (N:=(some 185)) (v:=?_) (a':=?_) #[true,true,true,true,true,true,true,true,true,true,true,true,true,true,false,false,false,false,false,false,false,false,false,false,false,false,false,false,false,false,false,false,false,false,false] rfl rfl (by kernel_rfl) (fun _ _ _ h=>h) (Or.inl ⟨by rfl,?_⟩) ?_ ?_
 rotate_left
 ·intro w';go_simp
  with_reducible rfl
 rotate_left
 ·simp only[Act.put,List.setIfInBounds_toArray,List.set_cons_zero,List.set_cons_succ,i64_w,i32_w];rfl
 refine pure_ (i:=14) (N:=(some 186)) (v:=?_) (a':=?_) #[true,true,true,true,true,true,true,true,true,true,true,true,true,true,true,false,false,false,false,false,false,false,false,false,false,false,false,false,false,false,false,false,false,false,false] rfl rfl (by kernel_rfl) (fun _ _ _ h=>h) (Or.inl ⟨by rfl,?_⟩) ?_ ?_
 rotate_left
 ·intro w';go_simp
  with_reducible rfl
 rotate_left
 ·simp only[Act.put,List.setIfInBounds_toArray,List.set_cons_zero,List.set_cons_succ,i64_w,i32_w];rfl
 refine pure_ (i:=15) (N:=(some 187)) (v:=?_) (a':=?_) #[true,true,true,true,true,true,true,true,true,true,true,true,true,true,true,true,false,false,false,false,false,false,false,false,false,false,false,false,false,false,false,false,false,false,false] rfl rfl (by kernel_rfl) (fun _ _ _ h=>h) (Or.inl ⟨by rfl,?_⟩) ?_ ?_
 rotate_left
 ·intro w';go_simp
  with_reducible rfl
 rotate_left
 ·simp only[Act.put,List.setIfInBounds_toArray,List.set_cons_zero,List.set_cons_succ,i64_w,i32_w];rfl
 refine pure_ (i:=16) (N:=(some 188)) (v:=?_) (a':=?_) #[true,true,true,true,true,true,true,true,true,true,true,true,true,true,true,true,true,false,false,false,false,false,false,false,false,false,false,false,false,false,false,false,false,false,false] rfl rfl (by kernel_rfl) (fun _ _ _ h=>h) (Or.inl ⟨by rfl,?_⟩) ?_ ?_
 rotate_left
 ·intro w';go_simp
  with_reducible rfl
 rotate_left
 ·simp only[Act.put,List.setIfInBounds_toArray,List.set_cons_zero,List.set_cons_succ,i64_w,i32_w];rfl
 refine pure_ (i:=17) (N:=(some 189)) (v:=?_) (a':=?_) #[true,true,true,true,true,true,true,true,true,true,true,true,true,true,true,true,true,true,false,false,false,false,false,false,false,false,false,false,false,false,false,false,false,false,false] rfl rfl (by kernel_rfl) (fun _ _ _ h=>h) (Or.inl ⟨by rfl,?_⟩) ?_ ?_
 rotate_left
 ·intro w';go_simp
  with_reducible rfl
 rotate_left
 ·simp only[Act.put,List.setIfInBounds_toArray,List.set_cons_zero,List.set_cons_succ,i64_w,i32_w];rfl
 refine pure_ (i:=18) (N:=(some 190)) (v:=?_) (a':=?_) #[true,true,true,true,true,true,true,true,true,true,true,true,true,true,true,true,true,true,true,false,false,false,false,false,false,false,false,false,false,false,false,false,false,false,false] rfl rfl (by kernel_rfl) (fun _ _ _ h=>h) (Or.inl ⟨by rfl,?_⟩) ?_ ?_
 rotate_left
 ·intro w';go_simp
  with_reducible rfl
 rotate_left
 ·simp only[Act.put,List.setIfInBounds_toArray,List.set_cons_zero,List.set_cons_succ,i64_w,i32_w];rfl
 refine pure_ (i:=19) (N:=(some 191)) (v:=?_) (a':=?_) #[true,true,true,true,true,true,true,true,true,true,true,true,true,true,true,true,true,true,true,true,false,false,false,false,false,false,false,false,false,false,false,false,false,false,false] rfl rfl (by kernel_rfl) (fun _ _ _ h=>h) (Or.inl ⟨by rfl,?_⟩) ?_ ?_
 rotate_left
 ·intro w';go_simp
  with_reducible rfl
 rotate_left
 ·simp only[Act.put,List.setIfInBounds_toArray,List.set_cons_zero,List.set_cons_succ,i64_w,i32_w];rfl
 refine pure_ (i:=20) (N:=(some 192)) (v:=?_) (a':=?_) #[true,true,true,true,true,true,true,true,true,true,true,true,true,true,true,true,true,true,true,true,true,false,false,false,false,false,false,false,false,false,false,false,false,false,false] rfl rfl (by kernel_rfl) (fun _ _ _ h=>h) (Or.inl ⟨by rfl,?_⟩) ?_ ?_
 rotate_left
 ·intro w';go_simp
  with_reducible rfl
 rotate_left
 ·simp only[Act.put,List.setIfInBounds_toArray,List.set_cons_zero,List.set_cons_succ,i64_w,i32_w];rfl
 refine take_ (i:=21) (N:=(some 193)) (v:=?_) (a':=?_) #[true,true,true,true,true,true,true,true,true,true,true,true,true,true,true,true,true,true,true,true,true,true,false,false,false,false,false,false,false,false,false,false,false,false,false] rfl rfl (by kernel_rfl) (fun _ _ _ h=>h) (Or.inl ⟨by rfl,?_⟩) hHeld ?_ ?_
 rotate_left
 ·rintro w' ⟨y0,y1,y2,y3,y4,y5,y6,y7,y8,y9,y10,y11,y12,y13⟩
  go_simp
  with_reducible rfl
 rotate_left
 ·simp only[Act.put,List.setIfInBounds_toArray,List.set_cons_zero,List.set_cons_succ,i64_w,i32_w];rfl
 refine pure_ (i:=22) (N:=(some 194)) (v:=?_) (a':=?_) #[true,true,true,true,true,true,true,true,true,true,true,true,true,true,true,true,true,true,true,true,true,true,true,false,false,false,false,false,false,false,false,false,false,false,false] rfl rfl (by kernel_rfl) (fun _ _ _ h=>h) (Or.inl ⟨by rfl,?_⟩) ?_ ?_
 rotate_left
 ·intro w';go_simp
  with_reducible rfl
 rotate_left
 ·simp only[Act.put,List.setIfInBounds_toArray,List.set_cons_zero,List.set_cons_succ,i64_w,i32_w];rfl
 refine pure_ (i:=23) (N:=(some 195)) (v:=?_) (a':=?_) #[true,true,true,true,true,true,true,true,true,true,true,true,true,true,true,true,true,true,true,true,true,true,true,true,false,false,false,false,false,false,false,false,false,false,false] rfl rfl (by kernel_rfl) (fun _ _ _ h=>h) (Or.inl ⟨by rfl,?_⟩) ?_ ?_
 rotate_left
 ·intro w';go_simp
  with_reducible rfl
 rotate_left
 ·simp only[Act.put,List.setIfInBounds_toArray,List.set_cons_zero,List.set_cons_succ,i64_w,i32_w];rfl
 refine pure_ (i:=24) (N:=(some 196)) (v:=?_) (a':=?_) #[true,true,true,true,true,true,true,true,true,true,true,true,true,true,true,true,true,true,true,true,true,true,true,true,true,false,false,false,false,false,false,false,false,false,false] rfl rfl (by kernel_rfl) (fun _ _ _ h=>h) (Or.inl ⟨by rfl,?_⟩) ?_ ?_
 rotate_left
 ·intro w';go_simp
  with_reducible rfl
 rotate_left
 ·simp only[Act.put,List.setIfInBounds_toArray,List.set_cons_zero,List.set_cons_succ,i64_w,i32_w];rfl
 refine pure_ (i:=25) (N:=(some 197)) (v:=?_) (a':=?_) #[true,true,true,true,true,true,true,true,true,true,true,true,true,true,true,true,true,true,true,true,true,true,true,true,true,true,false,false,false,false,false,false,false,false,false] rfl rfl (by kernel_rfl) (fun _ _ _ h=>h) (Or.inl ⟨by rfl,?_⟩) ?_ ?_
 rotate_left
 ·intro w';go_simp
  with_reducible rfl
 rotate_left
 ·simp only[Act.put,List.setIfInBounds_toArray,List.set_cons_zero,List.set_cons_succ,i64_w,i32_w];rfl
 refine take_ (i:=26) (N:=(some 198)) (v:=?_) (a':=?_) #[true,true,true,true,true,true,true,true,true,true,true,true,true,true,true,true,true,true,true,true,true,true,true,true,true,true,true,false,false,false,false,false,false,false,false] rfl rfl (by kernel_rfl) (fun _ _ _ h=>h) (Or.inl ⟨by rfl,?_⟩) hHeld ?_ ?_
 rotate_left
 ·rintro w' ⟨y0,y1,y2,y3,y4,y5,y6,y7,y8,y9,y10,y11,y12,y13⟩
  go_simp
  with_reducible rfl
 rotate_left
 ·simp only[Act.put,List.setIfInBounds_toArray,List.set_cons_zero,List.set_cons_succ,i64_w,i32_w];rfl
 refine one_ (i:=27) (N:=(some 199)) #[true,true,true,true,true,true,true,true,true,true,true,true,true,true,true,true,true,true,true,true,true,true,true,true,true,true,true,true,false,false,false,false,false,false,false] rfl rfl (by kernel_rfl) (by decide) (fun K hK=>?_);refine goes_ Tryd.func26 (by kernel_rfl) rfl #[.agg #[.int .i64 4,.slice (some ad) 3 c]] (by rfl) rfl rfl (by (try simp only[List.map_toArray,List.map_cons,List.map_nil]);first |done |rfl) ?_;refine (s_valid _ (some ad) c HC.out.1 HC.out.2).mono ?_
 rintro e w22 ⟨rfl,h22⟩
 refine⟨_,rfl,?_⟩;refine hK.out _ _ (HKP.out _ h22) (fun hHeld=>?_);clear hK K;refine norm_ (a':=?_) ?_ ?_
 rotate_left
 ·show Act.put _ (some 199) _=_
  simp only[Act.put,List.setIfInBounds_toArray,List.set_cons_zero,List.set_cons_succ,i64_w,i32_w];rfl
 refine pure_ (i:=28) (N:=(some 200)) (v:=?_) (a':=?_) #[true,true,true,true,true,true,true,true,true,true,true,true,true,true,true,true,true,true,true,true,true,true,true,true,true,true,true,true,true,false,false,false,false,false,false] rfl rfl (by kernel_rfl) (fun _ _ _ h=>h) (Or.inl ⟨by rfl,?_⟩) ?_ ?_
 rotate_left
 ·intro w';go_simp
  with_reducible rfl
 rotate_left
 ·simp only[Act.put,List.setIfInBounds_toArray,List.set_cons_zero,List.set_cons_succ,i64_w,i32_w];rfl
 refine pure_ (i:=29) (N:=(some 201)) (v:=?_) (a':=?_) #[true,true,true,true,true,true,true,true,true,true,true,true,true,true,true,true,true,true,true,true,true,true,true,true,true,true,true,true,true,true,false,false,false,false,false] rfl rfl (by kernel_rfl) (fun _ _ _ h=>h) (Or.inl ⟨by rfl,?_⟩) ?_ ?_
 rotate_left
 ·intro w';go_simp
  with_reducible rfl
 rotate_left
 ·simp only[Act.put,List.setIfInBounds_toArray,List.set_cons_zero,List.set_cons_succ,i64_w,i32_w];rfl
 refine pure_ (i:=30) (N:=(some 202)) (v:=?_) (a':=?_) #[true,true,true,true,true,true,true,true,true,true,true,true,true,true,true,true,true,true,true,true,true,true,true,true,true,true,true,true,true,true,true,false,false,false,false] rfl rfl (by kernel_rfl) (fun _ _ _ h=>h) (Or.inl ⟨by rfl,?_⟩) ?_ ?_
 rotate_left
 ·intro w';go_simp
  with_reducible rfl
 rotate_left
 ·simp only[Act.put,List.setIfInBounds_toArray,List.set_cons_zero,List.set_cons_succ,i64_w,i32_w];rfl
 refine one_ (i:=31) (N:=(some 203)) #[true,true,true,true,true,true,true,true,true,true,true,true,true,true,true,true,true,true,true,true,true,true,true,true,true,true,true,true,true,true,true,true,false,false,false] rfl rfl (by kernel_rfl) (by decide) (fun K hK=>?_);refine goes_ Tryd.func26 (by kernel_rfl) rfl #[.agg #[.int .i64 100,.slice none 0 0]] (by rfl) rfl rfl (by (try simp only[List.map_toArray,List.map_cons,List.map_nil]);first |done |rfl) ?_;refine (s_valid0 _).mono ?_
 rintro e w23 ⟨rfl,h23⟩
 refine⟨_,rfl,?_⟩;refine hK.out _ _ (HKP.out _ (Below.trans h22 (h23.mono h22.size))) (fun hHeld=>?_);clear hK K;refine norm_ (a':=?_) ?_ ?_
 rotate_left
 ·show Act.put _ (some 203) _=_
  simp only[Act.put,List.setIfInBounds_toArray,List.set_cons_zero,List.set_cons_succ,i64_w,i32_w];rfl
 refine pure_ (i:=32) (N:=(some 204)) (v:=?_) (a':=?_) #[true,true,true,true,true,true,true,true,true,true,true,true,true,true,true,true,true,true,true,true,true,true,true,true,true,true,true,true,true,true,true,true,true,false,false] rfl rfl (by kernel_rfl) (fun _ _ _ h=>h) (Or.inl ⟨by rfl,?_⟩) ?_ ?_
 rotate_left
 ·intro w';go_simp
  with_reducible rfl
 rotate_left
 ·simp only[Act.put,List.setIfInBounds_toArray,List.set_cons_zero,List.set_cons_succ,i64_w,i32_w];rfl
 refine pure_ (i:=33) (N:=(some 205)) (v:=?_) (a':=?_) #[true,true,true,true,true,true,true,true,true,true,true,true,true,true,true,true,true,true,true,true,true,true,true,true,true,true,true,true,true,true,true,true,true,true,false] rfl rfl (by kernel_rfl) (fun _ _ _ h=>h) (Or.inl ⟨by rfl,?_⟩) ?_ ?_
 rotate_left
 ·intro w';go_simp
  with_reducible rfl
 rotate_left
 ·simp only[Act.put,List.setIfInBounds_toArray,List.set_cons_zero,List.set_cons_succ,i64_w,i32_w];rfl
 refine pure_ (i:=34) (N:=(some 0)) (v:=?_) (a':=?_) #[true,true,true,true,true,true,true,true,true,true,true,true,true,true,true,true,true,true,true,true,true,true,true,true,true,true,true,true,true,true,true,true,true,true,true] rfl rfl (by kernel_rfl) (fun _ _ _ h=>h) (Or.inl ⟨by rfl,?_⟩) ?_ ?_
 rotate_left
 ·intro w';go_simp
  with_reducible rfl
 rotate_left
 ·simp only[Act.put,List.setIfInBounds_toArray,List.set_cons_zero,List.set_cons_succ,i64_w,i32_w];rfl
 refine done_ (by kernel_rfl) ?_;have hw:=Below.trans HW.out (Below.mono (Below.trans h22 (h23.mono h22.size)) HW.out.size);clear h22 h23 hS hHeld HKP
 go_wp2
 go_ret
 exact⟨rfl,hw⟩
end Go.Proofs.YtfdlmpicmkpabaaDoor.Ext
end
section
namespace Go.Proofs.YtfdlmpicmkpabaaDoor.RefSpec
set_option maxRecDepth 100000
open Go.RowKit Go.Proofs.YtfdlmpicmkpabaaDoorW.PrintWords Go.Proofs.YtfdlmpicmkpabaaDoorW.PrintLast Go.Proofs.YtfdlmpicmkpabaaDoorW.PrintMore Go.Proofs.YtfdlmpicmkpabaaDoor.Ext Go.Proofs.YtfdlmpicmkpabaaDoor.PB Go.Proofs.YtfdlmpicmkpabaaDoor.DigSpec
theorem w64{x:Int}(h1: -9223372036854775808<=x)(h2:x<9223372036854775808):wrap64 x=x:=DigSpec.w64 h1 h2
abbrev I(l:List Nat):List Int:=l.map fun n:Nat=>(n:Int)
theorem rd_I(l:List Nat)(j:Nat)(h:j<l.length):rd (I l) (j:Int)=((l.getD j 0:Nat):Int):=by
 unfold rd;simp[List.getD_eq_getElem?_getD,h]
theorem I_snoc(l:List Nat)(x:Nat):I l++[(x:Int)]=I (l++[x]):=by simp
theorem I_len(l:List Nat):(I l).length=l.length:=List.length_map _
theorem rotated_is(x n:Nat)(hx:x<4294967296)(h0:0<n)(hn:n<32)(z:Int)(hz:z=(n:Int)):aircheckref02_rotated.f (x:Int) z=some ((Sha.rot x n:Nat):Int):=by
 subst hz;have e1:wrap64 (32 - (n:Int))=((32 - n:Nat):Int):=by unfold wrap64;omega
 unfold aircheckref02_rotated.f;rw[e1,if_pos (by omega),if_pos (by omega)];have s1:shl .u32 (x:Int) ((32 - n:Nat):Int)=(((x <<< (32 - n))%4294967296:Nat):Int):=by
  unfold shl;rw[show min ((32 - n:Nat):Int).toNat IntKind.u32.bits=32 - n by simp[IntKind.bits],show ((2:Int) ^ (32 - n))=((2 ^ (32 - n):Nat):Int) by simp, <-Int.natCast_mul,IntKind.wrap_u32,Nat.shiftLeft_eq];omega
 have s2:shr .u32 (x:Int) (n:Int)=((x >>> n:Nat):Int):=by
  unfold shr;rw[show min ((n:Nat):Int).toNat IntKind.u32.bits=n by simp[IntKind.bits];omega,show ((2:Int) ^ n)=((2 ^ n:Nat):Int) by simp,Nat.shiftRight_eq_div_pow];rfl
 rw[s1,s2,u32_or_nat _ _ (Nat.lt_of_le_of_lt (Nat.shiftRight_le _ _) hx) (Nat.mod_lt _ (by decide))];rfl
theorem word_lt(a b c d:Nat)(ha:a<256)(hb:b<256)(hc:c<256)(hd:d<256):word a b c d<4294967296:=by
 unfold word;have e (x n:Nat) (hx:x<256) (hn:n<=24):x <<< n<4294967296:=by
  rw[Nat.shiftLeft_eq];have:2 ^ n<=2 ^ 24:=Nat.pow_le_pow_right (by decide) hn
  calc x*2 ^ n<=255*2 ^ n:=Nat.mul_le_mul_right _ (by omega)
   _<=255*2 ^ 24:=Nat.mul_le_mul_left _ this
   _<4294967296:=by decide
 exact or_lt (or_lt (or_lt (e a 24 ha (by omega)) (e b 16 hb (by omega))) (e c 8 hc (by omega))) (by omega)
theorem getD_lt{l:List Nat}{m:Nat}(h:∀x ∈ l,x<m)(hm:0<m)(j:Nat):l.getD j 0<m:=by
 rw[List.getD_eq_getElem?_getD]
 cases e:l[j]? with
 |none=>simpa using hm
 |some x=>exact h x (List.mem_of_getElem? e)
theorem wordAt_lt{b:List Nat}(h:∀x ∈ b,x<256)(j:Nat):wordAt b j<4294967296:=
 word_lt _ _ _ _ (getD_lt h (by decide) _) (getD_lt h (by decide) _) (getD_lt h (by decide) _) (getD_lt h (by decide) _)
theorem grow_lt{b:List Nat}(h:∀x ∈ b,x<256)(m:Nat):∀x ∈ grow b m,x<4294967296:=by
 induction m with
 |zero=>
  intro x hx;obtain⟨j,_,rfl⟩:=List.mem_map.1 hx;exact wordAt_lt h j
 |succ m ih=>
  intro x hx;rcases List.mem_append.1 hx with hx |hx
  ·exact ih x hx
  ·rw[List.mem_singleton.1 hx];exact Nat.mod_lt _ (by decide)
theorem block_l0(h b:List Nat)(hb:b.length=64)(hlt:∀x ∈ b,x<256)(k:Nat):∀(d j:Nat),j+d=16->
  aircheckref02_block.l0 (k+d+1) (I h) (I b) (I ((List.range j).map (wordAt b))) (j:Int)=aircheckref02_block.l1 k (I h) (I (grow b 0)) 16:=by
 intro d
 induction d with
 |zero=>
  intro j hj;obtain rfl:j=16:=by omega
  rw[aircheckref02_block.l0,if_neg (by omega)];rfl
 |succ d ih=>
  intro j hj;have e0:wrap64 (4*(j:Int))=((4*j:Nat):Int):=by rw[w64 (by omega) (by omega)];omega
  have e1:wrap64 (((4*j:Nat):Int)+1)=((4*j+1:Nat):Int):=by rw[w64 (by omega) (by omega)];omega
  have e2:wrap64 (((4*j:Nat):Int)+2)=((4*j+2:Nat):Int):=by rw[w64 (by omega) (by omega)];omega
  have e3:wrap64 (((4*j:Nat):Int)+3)=((4*j+3:Nat):Int):=by rw[w64 (by omega) (by omega)];omega
  have e4:wrap64 ((j:Int)+1)=((j+1:Nat):Int):=by rw[w64 (by omega) (by omega)];omega
  have hw:=word_is _ _ _ _ (getD_lt hlt (by decide) (4*j)) (getD_lt hlt (by decide) (4*j+1)) (getD_lt hlt (by decide) (4*j+2)) (getD_lt hlt (by decide) (4*j+3));simp only[IntKind.wrap_u32] at hw;rw[show k+(d+1)+1=(k+d+1)+1 by omega,aircheckref02_block.l0,e0,e1,e2,e3,e4,I_len,hb,if_pos (by omega),if_pos (by omega),if_pos (by omega),if_pos (by omega),if_pos (by omega),if_pos (by omega),if_pos (by omega),if_pos (by omega),if_pos (by omega),if_pos (by simp;omega),
   rd_I b _ (by omega),rd_I b _ (by omega),rd_I b _ (by omega),rd_I b _ (by omega),hw,I_snoc]
  rw[show (List.range j).map (wordAt b)++[word (b.getD (4*j) 0) (b.getD (4*j+1) 0) (b.getD (4*j+2) 0) (b.getD (4*j+3) 0)]=(List.range (j+1)).map (wordAt b) by rw[List.range_succ,List.map_append];rfl];exact ih (j+1) (by omega)
theorem mix2(x a b:Nat):ShaSpec.mix x [a,b]=Sha.rot x a ^^^ Sha.rot x b:=by simp only[ShaSpec.mix,List.foldl_cons,List.foldl_nil,Nat.zero_xor]
theorem mix3(x a b c:Nat):ShaSpec.mix x [a,b,c]=Sha.rot x a ^^^ Sha.rot x b ^^^ Sha.rot x c:=by simp only[ShaSpec.mix,List.foldl_cons,List.foldl_nil,Nat.zero_xor]
theorem shr3(x:Nat):((x:Int) / (8:Int))=((x >>> 3:Nat):Int):=by rw[Nat.shiftRight_eq_div_pow];rfl
theorem shr10(x:Nat):((x:Int) / (1024:Int))=((x >>> 10:Nat):Int):=by rw[Nat.shiftRight_eq_div_pow];rfl
theorem shr_lt{x:Nat}(n:Nat)(h:x<4294967296):x >>> n<4294967296:=Nat.lt_of_le_of_lt (Nat.shiftRight_le _ _) h
theorem constants_is:aircheckref02_constants.f=some (I Sha.kk):=by decide+kernel
theorem block_l1(h b:List Nat)(hh:h.length=8)(hlt:∀x ∈ b,x<256)(k:Nat):∀(d m:Nat),m+d=48->
  aircheckref02_block.l1 (k+d+1) (I h) (I (grow b m)) ((16+m:Nat):Int)=aircheckref02_block.l2 k (I h) (I (grow b 48)) (I Sha.kk) (I h) 0:=by
 intro d
 induction d with
 |zero=>
  intro m hm;obtain rfl:m=48:=by omega
  rw[aircheckref02_block.l1,if_neg (by omega),constants_is,Option.bind_some,if_pos (by simp[hh]),List.nil_append]
 |succ d ih=>
  intro m hm;have hg:=grow_len b m;have hl:=grow_lt hlt m;have e15:wrap64 (((16+m:Nat):Int) - 15)=((m+1:Nat):Int):=by rw[w64 (by omega) (by omega)];omega
  have e2:wrap64 (((16+m:Nat):Int) - 2)=((m+14:Nat):Int):=by rw[w64 (by omega) (by omega)];omega
  have e16:wrap64 (((16+m:Nat):Int) - 16)=((m:Nat):Int):=by rw[w64 (by omega) (by omega)];omega
  have e7:wrap64 (((16+m:Nat):Int) - 7)=((m+9:Nat):Int):=by rw[w64 (by omega) (by omega)];omega
  have e1:wrap64 (((16+m:Nat):Int)+1)=((16+(m+1):Nat):Int):=by rw[w64 (by omega) (by omega)];omega
  have hp:=getD_lt hl (by decide) (m+1);have hq:=getD_lt hl (by decide) (m+14);rw[show k+(d+1)+1=(k+d+1)+1 by omega,aircheckref02_block.l1,e15,e2,e16,e7,e1,I_len,hg,if_pos (by omega),if_pos (by omega),if_pos (by omega),
   rd_I _ (m+1) (by omega),rd_I _ (m+14) (by omega),rd_I _ m (by omega),rd_I _ (m+9) (by omega),
   rotated_is _ 7 hp (by decide) (by decide) 7 rfl,Option.bind_some,rotated_is _ 18 hp (by decide) (by decide) 18 rfl,Option.bind_some,if_pos (by omega),if_pos (by omega),
   rotated_is _ 17 hq (by decide) (by decide) 17 rfl,Option.bind_some,rotated_is _ 19 hq (by decide) (by decide) 19 rfl,Option.bind_some,if_pos (by omega),if_pos (by omega),if_pos (by omega),if_pos (by omega),if_pos (by omega),
   u32_xor_nat _ _ (ShaSpec.rot_lt _ _ hp) (ShaSpec.rot_lt _ _ hp),u32_xor_nat _ _ (ShaSpec.rot_lt _ _ hq) (ShaSpec.rot_lt _ _ hq),shr3,shr10,
   u32_xor_nat _ _ (ShaSpec.xor_lt (ShaSpec.rot_lt _ _ hp) (ShaSpec.rot_lt _ _ hp)) (shr_lt 3 hp),u32_xor_nat _ _ (ShaSpec.xor_lt (ShaSpec.rot_lt _ _ hq) (ShaSpec.rot_lt _ _ hq)) (shr_lt 10 hq)]
  have en:next (grow b m)=((grow b m).getD m 0+(Sha.rot ((grow b m).getD (m+1) 0) 7 ^^^ Sha.rot ((grow b m).getD (m+1) 0) 18 ^^^ (grow b m).getD (m+1) 0 >>> 3)+(grow b m).getD (m+9) 0+(Sha.rot ((grow b m).getD (m+14) 0) 17 ^^^ Sha.rot ((grow b m).getD (m+14) 0) 19 ^^^ (grow b m).getD (m+14) 0 >>> 10))%4294967296:=by
   unfold next
   rw[hg,mix2,mix2,show 16+m - 16=m by omega,show 16+m - 15=m+1 by omega,show 16+m - 7=m+9 by omega,show 16+m - 2=m+14 by omega]
  have ei:(((((((grow b m).getD m 0:Nat):Int)+((Sha.rot ((grow b m).getD (m+1) 0) 7 ^^^ Sha.rot ((grow b m).getD (m+1) 0) 18 ^^^ (grow b m).getD (m+1) 0 >>> 3:Nat):Int))%(4294967296:Int)+(((grow b m).getD (m+9) 0:Nat):Int))%(4294967296:Int)+((Sha.rot ((grow b m).getD (m+14) 0) 17 ^^^ Sha.rot ((grow b m).getD (m+14) 0) 19 ^^^ (grow b m).getD (m+14) 0 >>> 10:Nat):Int))%(4294967296:Int))=((next (grow b m):Nat):Int):=by
   rw[en];generalize Sha.rot ((grow b m).getD (m+1) 0) 7 ^^^ Sha.rot ((grow b m).getD (m+1) 0) 18 ^^^ (grow b m).getD (m+1) 0 >>> 3=A;generalize Sha.rot ((grow b m).getD (m+14) 0) 17 ^^^ Sha.rot ((grow b m).getD (m+14) 0) 19 ^^^ (grow b m).getD (m+14) 0 >>> 10=B;omega
  rw[ei,I_snoc];exact ih (m+1) (by omega)
theorem lst_len(s:Sha.St):(lst s).length=8:=rfl
theorem block_l2(h W:List Nat)(s:Sha.St)(hs:Bd s)(hW:W.length=64)(k:Nat):∀(d i:Nat),i+d=64->
  aircheckref02_block.l2 (k+d+1) (I h) (I W) (I Sha.kk) (I (lst (upto i W s))) (i:Int)=aircheckref02_block.l3 k (I h) (I (lst (upto 64 W s))) [] 0:=by
 intro d
 induction d with
 |zero=>
  intro i hi;obtain rfl:i=64:=by omega
  rw[aircheckref02_block.l2,if_neg (by omega)]
 |succ d ih=>
  intro i hi;have hbd:=upto_bd W s hs hW i (by omega);have hsucc:=upto_succ i W s (by omega) hW;have e1:wrap64 ((i:Int)+1)=((i+1:Nat):Int):=by rw[w64 (by omega) (by omega)];omega
  have hk:=rd_I Sha.kk i (by rw[kk_len];omega);have hw:=rd_I W i (by omega);generalize upto i W s=v at*
  generalize Sha.kk.getD i 0=kx at*
  generalize W.getD i 0=wx at*
  have r0:rd (I (lst v)) 0=(v.a:Int):=rfl;have r1:rd (I (lst v)) 1=(v.b:Int):=rfl;have r2:rd (I (lst v)) 2=(v.c:Int):=rfl;have r3:rd (I (lst v)) 3=(v.d:Int):=rfl;have r4:rd (I (lst v)) 4=(v.e:Int):=rfl;have r5:rd (I (lst v)) 5=(v.f:Int):=rfl;have r6:rd (I (lst v)) 6=(v.g:Int):=rfl;have r7:rd (I (lst v)) 7=(v.h:Int):=rfl;have ht:=t_is v kx wx hbd;have hu:=u_is v hbd;have b1:=hbd.1;have b5:=hbd.2.2.2.2.1;rw[mix3] at ht hu;simp only[IntKind.wrap_u32] at ht hu;rw[show k+(d+1)+1=(k+d+1)+1 by omega,aircheckref02_block.l2,e1,I_len,lst_len,I_len,kk_len,I_len,hW,hk,hw,r0,r1,r2,r3,r4,r5,r6,r7,if_pos (by omega),if_pos (by omega),if_pos (by omega),if_pos (by omega),
   rotated_is _ 6 b5 (by decide) (by decide) 6 rfl,Option.bind_some,rotated_is _ 11 b5 (by decide) (by decide) 11 rfl,Option.bind_some,rotated_is _ 25 b5 (by decide) (by decide) 25 rfl,Option.bind_some,
   if_pos (by omega),if_pos (by omega),if_pos (by omega),if_pos (by omega),if_pos (by omega),
   rotated_is _ 2 b1 (by decide) (by decide) 2 rfl,Option.bind_some,rotated_is _ 13 b1 (by decide) (by decide) 13 rfl,Option.bind_some,rotated_is _ 22 b1 (by decide) (by decide) 22 rfl,Option.bind_some,
   if_pos (by omega),if_pos (by omega),if_pos (by omega),
   u32_xor_nat _ _ (ShaSpec.rot_lt _ _ b5) (ShaSpec.rot_lt _ _ b5),u32_xor_nat _ _ (ShaSpec.xor_lt (ShaSpec.rot_lt _ _ b5) (ShaSpec.rot_lt _ _ b5)) (ShaSpec.rot_lt _ _ b5),
   u32_xor_nat _ _ (ShaSpec.rot_lt _ _ b1) (ShaSpec.rot_lt _ _ b1),u32_xor_nat _ _ (ShaSpec.xor_lt (ShaSpec.rot_lt _ _ b1) (ShaSpec.rot_lt _ _ b1)) (ShaSpec.rot_lt _ _ b1),ht,hu]
  have he:([(((tOf v kx wx:Nat):Int)+((uOf v:Nat):Int))%(4294967296:Int),(v.a:Int),(v.b:Int),(v.c:Int),((v.d:Int)+((tOf v kx wx:Nat):Int))%(4294967296:Int),(v.e:Int),(v.f:Int),(v.g:Int)]:List Int)=I (lst (Sha.rnd v kx wx)):=by
   rw[rnd_is];simp
  rw[he, <-hsucc];exact ih (i+1) (by omega)
theorem block_l3(h v:List Nat)(hh:h.length=8)(hv:v.length=8)(k:Nat):∀(d i:Nat),i+d=8->
  aircheckref02_block.l3 (k+d+1) (I h) (I v) (I ((List.range i).map fun j=>(h.getD j 0+v.getD j 0)%4294967296)) (i:Int)=some (I ((List.range 8).map fun j=>(h.getD j 0+v.getD j 0)%4294967296)):=by
 intro d
 induction d with
 |zero=>
  intro i hi;obtain rfl:i=8:=by omega
  rw[aircheckref02_block.l3,if_neg (by omega)]
 |succ d ih=>
  intro i hi;have e1:wrap64 ((i:Int)+1)=((i+1:Nat):Int):=by rw[w64 (by omega) (by omega)];omega
  rw[show k+(d+1)+1=(k+d+1)+1 by omega,aircheckref02_block.l3,e1,I_len,hh,I_len,hv,if_pos (by omega),if_pos (by omega),if_pos (by omega),if_pos (by omega),if_pos (by simp;omega),rd_I h i (by omega),rd_I v i (by omega)];rw[show (((h.getD i 0:Nat):Int)+((v.getD i 0:Nat):Int))%(4294967296:Int)=(((h.getD i 0+v.getD i 0)%4294967296:Nat):Int) by omega,I_snoc];have:=ih (i+1) (by omega);rw[List.range_succ,List.map_append] at this;exact this
theorem block_is(s:Sha.St)(hs:Bd s)(b:List Nat)(hb:b.length=64)(hlt:∀x ∈ b,x<256)(k:Nat)(hk:140<=k):aircheckref02_block.f k (I (lst s)) (I b)=some (I (lst (Sha.block s b))):=by
 obtain⟨q,rfl⟩:∃q,k=((((q+8+1)+64+1)+48+1)+16+1):=⟨k - 140,by omega⟩
 have h0:=block_l0 (lst s) b hb hlt (((q+8+1)+64+1)+48+1) 16 0 rfl;have h1:=block_l1 (lst s) b rfl hlt ((q+8+1)+64+1) 48 0 rfl;have h2:=block_l2 (lst s) (grow b 48) s hs (by rw[grow_len]) (q+8+1) 64 0 rfl;have h3:=block_l3 (lst s) (lst (upto 64 (grow b 48) s)) rfl rfl q 8 0 rfl;unfold aircheckref02_block.f;refine h0.trans (h1.trans (h2.trans (h3.trans ?_)));rw[upto_all _ _ (by rw[grow_len])];have ha:grow b 48=(Sha.more 48 (Sha.words 16 b).reverse).reverse:=by
  rw[<-arr_all b hb];simp[arr]
 rw[ha];rfl
theorem bt_I(s:ByteArray)(j:Nat)(h:j<s.size):bt s (j:Int)=(((nat s).getD j 0:Nat):Int):=by
 have e:(nat s)[j]?=some (s.data[j]'h).toNat:=by
  unfold nat;rw[List.getElem?_map,Array.getElem?_toList,Array.getElem?_eq_getElem h];rfl
 rw[List.getD_eq_getElem?_getD,e];unfold bt;simp only[Int.toNat_natCast,dif_pos h];rfl
theorem ext_l0(s:ByteArray)(hs:s.size<=1000000)(k:Nat):∀(d j:Nat),j+d=s.size->aircheckref02_extended.l0 (k+d+1) s (I ((nat s).take j)) (j:Int)=aircheckref02_extended.l1 k s (I (nat s++[128])):=by
 intro d
 induction d with
 |zero=>
  intro j hj;rw[aircheckref02_extended.l0,if_neg (by omega),List.take_of_length_le (by rw[nat_length];omega),if_pos (by rw[I_len,nat_length];omega),show (128:Int)=((128:Nat):Int) from rfl,I_snoc]
 |succ d ih=>
  intro j hj;rw[show k+(d+1)+1=(k+d+1)+1 by omega,aircheckref02_extended.l0,if_pos (by omega),if_pos (by omega),if_pos (by rw[I_len,List.length_take,nat_length];omega),bt_I s j (by omega),I_snoc,w64 (by omega) (by omega),show (j:Int)+1=((j+1:Nat):Int) by omega, <-take_snoc' (by rw[nat_length];omega)];exact ih (j+1) (by omega)
theorem ext_l1(s:ByteArray)(hs:s.size<=1000000)(k:Nat):∀(d i:Nat),i+d=zeros s.size->aircheckref02_extended.l1 (k+d+1) s (I (nat s++[128]++List.replicate i 0))=aircheckref02_extended.l2 k s (I (nat s++[128]++List.replicate (zeros s.size) 0)) 7:=by
 intro d
 induction d with
 |zero=>
  intro i hi;obtain rfl:i=zeros s.size:=by omega
  have hl:((I (nat s++[128]++List.replicate (zeros s.size) 0)).length:Int)%64=56:=by
   rw[I_len,List.length_append,List.length_append,nat_length,List.length_replicate];unfold zeros;simp only[List.length_singleton];omega
  rw[aircheckref02_extended.l1,if_pos hl]
 |succ d ih=>
  intro i hi;have hl:¬((I (nat s++[128]++List.replicate i 0)).length:Int)%64=56:=by
   rw[I_len,List.length_append,List.length_append,nat_length,List.length_replicate];unfold zeros at hi;simp only[List.length_singleton];omega
  have hz:zeros s.size<64:=by unfold zeros;omega
  rw[show k+(d+1)+1=(k+d+1)+1 by omega,aircheckref02_extended.l1,if_neg hl,if_pos (by rw[I_len,List.length_append,List.length_append,nat_length,List.length_replicate];simp only[List.length_singleton];omega),show (0:Int)=((0:Nat):Int) from rfl,I_snoc,
   show nat s++[128]++List.replicate i 0++[0]=nat s++[128]++List.replicate (i+1) 0 by rw[List.append_assoc,List.replicate_succ']]
  exact ih (i+1) (by omega)
theorem shr64(n i:Nat)(h:i<=7)(hn:n<=1000000):(shr .i64 (wrap64 (8*(n:Int))) (wrap64 (8*(i:Int))))%(256:Int)=(((8*n) / 2 ^ (8*i)%256:Nat):Int):=by
 rw[w64 (by omega) (by omega),w64 (by omega) (by omega)];unfold shr;rw[show min ((8*(i:Int))).toNat IntKind.i64.bits=8*i by rw[show (8*(i:Int)).toNat=8*i by omega];simp[IntKind.bits];omega];simp
theorem ext_l2(s:ByteArray)(hs:s.size<=1000000)(L:List Nat)(hL:L.length<=2000000)(k:Nat):aircheckref02_extended.l2 (k+9) s (I L) 7=some (I (L++tail8 s.size)):=by
 have step (k i:Nat) (M:List Nat) (hi:i<=7) (hM:M.length<=3000000):aircheckref02_extended.l2 (k+1) s (I M) (i:Int)=aircheckref02_extended.l2 k s (I (M++[(8*s.size) / 2 ^ (8*i)%256])) ((i:Int) - 1):=by
  rw[aircheckref02_extended.l2,if_pos (by omega),if_pos (by rw[w64 (by omega) (by omega)];omega),if_pos (by rw[I_len];omega),shr64 _ _ hi hs,I_snoc,w64 (x:=(i:Int) - 1) (by omega) (by omega)]
 have h7:=step (k+8) 7 L (by omega) (by omega);have h6:=step (k+7) 6 (L++[(8*s.size) / 2 ^ (8*7)%256]) (by omega) (by simp;omega);have h5:=step (k+6) 5 (L++[(8*s.size) / 2 ^ (8*7)%256]++[(8*s.size) / 2 ^ (8*6)%256]) (by omega) (by simp;omega);have h4:=step (k+5) 4 (L++[(8*s.size) / 2 ^ (8*7)%256]++[(8*s.size) / 2 ^ (8*6)%256]++[(8*s.size) / 2 ^ (8*5)%256]) (by omega) (by simp;omega);have h3:=step (k+4) 3 (L++[(8*s.size) / 2 ^ (8*7)%256]++[(8*s.size) / 2 ^ (8*6)%256]++[(8*s.size) / 2 ^ (8*5)%256]++[(8*s.size) / 2 ^ (8*4)%256]) (by omega) (by simp;omega);have h2:=step (k+3) 2 (L++[(8*s.size) / 2 ^ (8*7)%256]++[(8*s.size) / 2 ^ (8*6)%256]++[(8*s.size) / 2 ^ (8*5)%256]++[(8*s.size) / 2 ^ (8*4)%256]++[(8*s.size) / 2 ^ (8*3)%256]) (by omega) (by simp;omega);have h1:=step (k+2) 1 (L++[(8*s.size) / 2 ^ (8*7)%256]++[(8*s.size) / 2 ^ (8*6)%256]++[(8*s.size) / 2 ^ (8*5)%256]++[(8*s.size) / 2 ^ (8*4)%256]++[(8*s.size) / 2 ^ (8*3)%256]++[(8*s.size) / 2 ^ (8*2)%256]) (by omega) (by simp;omega);have h0:=step (k+1) 0 (L++[(8*s.size) / 2 ^ (8*7)%256]++[(8*s.size) / 2 ^ (8*6)%256]++[(8*s.size) / 2 ^ (8*5)%256]++[(8*s.size) / 2 ^ (8*4)%256]++[(8*s.size) / 2 ^ (8*3)%256]++[(8*s.size) / 2 ^ (8*2)%256]++[(8*s.size) / 2 ^ (8*1)%256]) (by omega) (by simp;omega);refine h7.trans (h6.trans (h5.trans (h4.trans (h3.trans (h2.trans (h1.trans (h0.trans ?_)))))));rw[show ((0:Nat):Int) - 1= -1 from rfl,aircheckref02_extended.l2,if_neg (by omega)];simp[tail8]
theorem extended_is(s:ByteArray)(hs:s.size<=1000000)(k:Nat)(hk:s.size+100<=k):aircheckref02_extended.f k s=some (I (nat s++Sha.pad s.size)):=by
 have hz:zeros s.size<64:=by unfold zeros;omega
 obtain⟨q,rfl⟩:∃q,k=((q+9)+zeros s.size+1)+s.size+1:=⟨k - (9+zeros s.size+1+s.size+1),by omega⟩
 have h0:=ext_l0 s hs ((q+9)+zeros s.size+1) s.size 0 (by omega);have h1:=ext_l1 s hs (q+9) (zeros s.size) 0 (by omega);have h2:=ext_l2 s hs (nat s++[128]++List.replicate (zeros s.size) 0) (by rw[List.length_append,List.length_append,nat_length,List.length_replicate,List.length_singleton];omega) q;rw[List.replicate_zero,List.append_nil] at h1;unfold aircheckref02_extended.f;refine h0.trans (h1.trans (h2.trans ?_));rw[pad_is,List.append_assoc,List.append_assoc];rfl
theorem sum_l0(p:List Nat)(n:Nat)(hp:p.length=64*n)(hn:n<=1000000)(hlt:∀x ∈ p,x<256)(k:Nat)(hk:140<=k):∀(d i:Nat) (s:Sha.St),Bd s->i+d=n->
  aircheckref02_Sum.l0 (k+d+1) (I (lst s)) (I p) ((64*i:Nat):Int)=aircheckref02_Sum.l1 k (I (lst (Sha.blocks d s (p.drop (64*i))))) [] 0:=by
 intro d
 induction d with
 |zero=>
  intro i s hs hi;rw[aircheckref02_Sum.l0,I_len,hp,if_neg (by omega)];rfl
 |succ d ih=>
  intro i s hs hi;have e1:wrap64 (((64*i:Nat):Int)+64)=((64*(i+1):Nat):Int):=by rw[w64 (by omega) (by omega)];omega
  have e2:((I p).take (64*(i+1))).drop (64*i)=I ((p.drop (64*i)).take 64):=by
   rw[<-List.map_take, <-List.map_drop,List.drop_take,show 64*(i+1) - 64*i=64 by omega]
  have hb:((p.drop (64*i)).take 64).length=64:=by rw[List.length_take,List.length_drop];omega
  rw[show k+(d+1)+1=(k+d+1)+1 by omega,aircheckref02_Sum.l0,e1,I_len,hp,if_pos (by omega),if_pos (by omega),if_pos (by omega),if_pos (by omega),Int.toNat_natCast,Int.toNat_natCast,e2,
   block_is s hs _ hb (fun x hx=>hlt x (List.mem_of_mem_drop (List.mem_of_mem_take hx))) (k+d+1) (by omega),Option.bind_some,ih (i+1) _ (block_bd _ _) (by omega)]
  rw[show p.drop (64*(i+1))=(p.drop (64*i)).drop 64 by rw[List.drop_drop];rfl];rfl
def beOf(x:Nat):List Nat:=[x / 16777216%256,x / 65536%256,x / 256%256,x%256]
theorem be_is(x:Nat)(hx:x<4294967296):Sha.be x=beOf x:=by
 unfold Sha.be beOf;rw[Nat.shiftRight_eq_div_pow,Nat.shiftRight_eq_div_pow,Nat.shiftRight_eq_div_pow];congr 1;omega
theorem sum_l1(h:List Nat)(hh:h.length=8)(k:Nat):∀(d i:Nat),i+d=8->
  aircheckref02_Sum.l1 (k+d+1) (I h) (I ((h.take i).flatMap beOf)) (i:Int)=some (str (h.flatMap beOf)):=by
 intro d
 induction d with
 |zero=>
  intro i hi;rw[aircheckref02_Sum.l1,if_neg (by omega),List.take_of_length_le (by omega)];congr 1;unfold strOfNums str;simp
 |succ d ih=>
  intro i hi;have hb:∀l:List Nat,(l.flatMap beOf).length=4*l.length:=by
   intro l
   induction l with
   |nil=>rfl
   |cons a l ih=>rw[List.flatMap_cons,List.length_append,ih];simp[beOf];omega
  rw[show k+(d+1)+1=(k+d+1)+1 by omega,aircheckref02_Sum.l1,if_pos (by omega),if_pos (by omega),I_len,hh,if_pos (by omega),Option.bind_some,if_pos (by rw[I_len,hb,List.length_take];simp;omega),rd_I h i (by omega),w64 (by omega) (by omega),show (i:Int)+1=((i+1:Nat):Int) by omega];have he:I ((h.take i).flatMap beOf)++[((h.getD i 0:Nat):Int) / 16777216%256,((h.getD i 0:Nat):Int) / 65536%256,((h.getD i 0:Nat):Int) / 256%256,((h.getD i 0:Nat):Int)%256]=I ((h.take (i+1)).flatMap beOf):=by
   rw[take_snoc' (by omega),List.flatMap_append];simp[beOf]
  rw[he];exact ih (i+1) (by omega)
theorem refsum_is(s:ByteArray)(hs:s.size<=100000)(k:Nat)(hk:2*s.size+400<=k):aircheckref02_Sum.f k s=some (Ext.hash s):=by
 have hz:zeros s.size<64:=by unfold zeros;omega
 obtain⟨p,hp⟩:∃p,p=nat s++Sha.pad s.size:=⟨_,rfl⟩
 have hlen:p.length=s.size+(1+(zeros s.size+8)):=by
  rw[hp,pad_is,List.length_append,nat_length,List.length_cons,List.length_append,List.length_replicate];simp[tail8];omega
 have hdiv:∃n,p.length=64*n:=⟨p.length / 64,by rw[hlen];unfold zeros;omega⟩
 obtain⟨n,hn⟩:=hdiv;have hlt:∀x ∈ p,x<256:=by
  intro x hx;rw[hp] at hx;rcases List.mem_append.1 hx with hx |hx
  ·exact nat_lt s x hx
  ·exact pad_lt _ x hx
 have hnle:n<=s.size+2:=by omega
 obtain⟨q,rfl⟩:∃q,k=(q+140)+n+1:=⟨k - (140+n+1),by omega⟩
 unfold aircheckref02_Sum.f;rw[extended_is s (by omega) _ (by omega),Option.bind_some, <-hp];have h0:=sum_l0 p n hn (by omega) hlt (q+140) (by omega) n 0 Sha.init init_bd (by omega);have h1:=sum_l1 (lst (Sha.blocks n Sha.init (p.drop (64*0)))) rfl (q+131) 8 0 rfl;refine h0.trans (h1.trans ?_);unfold Ext.hash Sha.sha
 dsimp only
 rw[nat_length, <-hp,hn,Nat.mul_div_cancel_left _ (by omega:0<64)];rw[Nat.mul_zero,List.drop_zero];obtain⟨b1,b2,b3,b4,b5,b6,b7,b8⟩:=blocks_bd n p;congr 2;unfold Sha.out lst;rw[be_is _ b1,be_is _ b2,be_is _ b3,be_is _ b4,be_is _ b5,be_is _ b6,be_is _ b7,be_is _ b8];simp
end Go.Proofs.YtfdlmpicmkpabaaDoor.RefSpec
end
section
namespace Go.Proofs.YtfdlmpicmkpabaaDoor.WireSpec
set_option maxRecDepth 100000
open Go.RowKit Go.Proofs.YtfdlmpicmkpabaaDoorW.PrintWords Go.Proofs.YtfdlmpicmkpabaaDoorW.PrintLast Go.Proofs.YtfdlmpicmkpabaaDoorW.PrintMore Go.Proofs.YtfdlmpicmkpabaaDoor.Ext Go.Proofs.YtfdlmpicmkpabaaDoor.PC Go.Proofs.YtfdlmpicmkpabaaDoor.PB Leb
theorem str_nums(l:List Nat):strOfNums (l.map fun n:Nat=>(n:Int))=str l:=by
 unfold strOfNums str;rw[List.map_map];rfl
theorem tdiv_nat(z d:Nat):Int.tdiv (z:Int) (d:Int)=((z / d:Nat):Int):=rfl
theorem tmod_nat(z d:Nat):Int.tmod (z:Int) (d:Int)=((z%d:Nat):Int):=rfl
theorem ref_put_loop(k:Nat):∀(z:Nat) (out:List Nat),(leb z).length<=k->z<9223372036854775808->out.length+k<1000000->
  aircheckref01_PutInt.l0 k (z:Int) (out.map fun n:Nat=>(n:Int))=some (str (out++leb z),0):=by
 induction k with
 |zero=>intro z out h;have:=List.length_pos_iff.2 (leb_ne z);omega
 |succ k ih=>
  intro z out h hz ho;simp only[aircheckref01_PutInt.l0,List.length_map]
  by_cases h1:z<128
  ·have hb:((z:Int))%256=((z:Nat):Int):=by omega
   rw[if_neg (by omega),if_pos (by omega),hb,leb_small h1, <-str_nums];simp
  ·have e1:IntKind.u64.wrap (Int.tdiv (z:Int) 128)=((z / 128:Nat):Int):=by
    rw[show (128:Int)=((128:Nat):Int) from rfl,tdiv_nat,IntKind.wrap_u64];omega
   have e2:(IntKind.u64.wrap ((Int.tmod (z:Int) 128)+128))%256=((z%128+128:Nat):Int):=by
    rw[show (Int.tmod (z:Int) 128)=((z%128:Nat):Int) from tmod_nat z 128,IntKind.wrap_u64];omega
   rw[if_pos (by omega),if_pos (by omega),e1,e2];have:=ih (z / 128) (out++[z%128+128]) (by rw[leb_big h1] at h;simpa using h) (by omega) (by simp;omega);rw[List.map_append,List.map_singleton] at this;rw[this,leb_big h1];simp
theorem ref_zig{a:Int}(h0: -4611686018427387903<=a)(h1:a<=4611686018427387903):aircheckref01_zigzag.f a=some ((zig a:Nat):Int):=by
 unfold aircheckref01_zigzag.f zig
 by_cases h:a<0
 ·rw[if_pos h,if_pos h,w64 (x:= -a) (by omega) (by omega)];simp only[IntKind.wrap_u64];congr 1;omega
 ·rw[if_neg h,if_neg h];simp only[IntKind.wrap_u64];congr 1;omega
theorem ref_put(a:Int)(k:Nat)(hk:12<=k)(hk2:k<100000):aircheckref01_PutInt.f k a=wire_PutInt.f a:=by
 obtain⟨k,rfl⟩:∃m,k=m+1:=⟨k - 1,by omega⟩
 unfold aircheckref01_PutInt.f wire_PutInt.f
 by_cases h0:a< -4611686018427387903
 ·rw[if_pos h0,if_pos h0,aircheckref01_PutInt.j0,if_pos rfl]
 ·rw[if_neg h0,if_neg h0,aircheckref01_PutInt.j0]
  by_cases h1:a>4611686018427387903
  ·rw[if_pos h1,if_pos (by simpa using h1)]
  ·rw[if_neg h1,if_neg (by simpa using h1),ref_zig (by omega) (by omega),Option.bind_some];have hz:=zig_range (n:=a) (by omega) (by omega);have:=ref_put_loop k (zig a) [] (by have:=leb_len9 hz;omega) (by omega) (by simp;omega);exact this
end Go.Proofs.YtfdlmpicmkpabaaDoor.WireSpec
end
section
namespace Go.Proofs.YtfdlmpicmkpabaaDoor.Ext
set_option maxRecDepth 100000
open Go.RowKit Go.Proofs.YtfdlmpicmkpabaaDoorW.PrintWords Go.Proofs.YtfdlmpicmkpabaaDoorW.PrintLast Go.Proofs.YtfdlmpicmkpabaaDoorW.PrintMore Go.Proofs.YtfdlmpicmkpabaaDoor.PB
theorem pick_is(c n:Int)(hc: -9223372036854775808<=c∧c<=9223372036854775807)(hn:0<n):aircheckref35_pick.f c n=some (pkN c n):=by
 unfold aircheckref35_pick.f pkN
 by_cases h:c<0
 ·have e1:wrap64 (c+1)=c+1:=w64' (by omega) (by omega);have e2:wrap64 (-(c+1))= -(c+1):=w64' (by omega) (by omega);rw[if_pos h,if_pos h,if_neg (by omega),e1,e2,Int.tmod_eq_emod_of_nonneg (by omega)]
 ·rw[if_neg h,if_neg h,if_neg (by omega),Int.tmod_eq_emod_of_nonneg (by omega)]
def keyF(c:Int):ByteArray:=hash (str (encL [pkN c 1099511627776]))
theorem v_key1:keyF 1=key0:=by
 unfold keyF key0;congr 1
 decide+kernel
theorem Key_is(c:Int)(hc: -9223372036854775808<=c∧c<=9223372036854775807)(k:Nat)(hk:2000<=k)(hk2:k<100000):aircheckref35_Key.f k c=some (keyF c):=by
 have hp:=pkN_range c 1099511627776 (by decide);unfold aircheckref35_Key.f;rw[pick_is c _ hc (by decide),Option.bind_some,WireSpec.ref_put _ k (by omega) hk2];unfold wire_PutInt.f;rw[if_neg (by omega),if_neg (by omega),Option.bind_some];have ho:[pkN c 1099511627776].all encOk=true:=by
  simp only[List.all_cons,List.all_nil,Bool.and_true,encOk,decide_eq_true_eq];omega
 have hl:=enc_len _ ho;have he:encL [pkN c 1099511627776]=Leb.enc (pkN c 1099511627776):=by simp[encL]
 rw[he] at hl;have hz:(str (Leb.enc (pkN c 1099511627776))).size<=9:=by rw[str_size];simpa using hl
 show ((aircheckref02_Sum.f k (str (Leb.enc (pkN c 1099511627776)))).bind _)=_
 rw[RefSpec.refsum_is _ (by omega) k (by omega),Option.bind_some];unfold keyF;rw[he]
theorem key_walk(c:Int)(hc: -9223372036854775808<=c∧c<=9223372036854775807)(w:World):Calls Tryd.prog 11 #[.int .i64 c] w fun e w'=>e=.returned (.string (keyF c))∧Below w.heap.size w w':=
 aircheckref35_Key.calls 2000 c _ w (Key_is c hc 2000 (Nat.le_refl _) (by decide))
def airchecklaw35_sane.f:Option Bool:=some true
theorem airchecklaw35_sane.calls(r:Bool)(w:World)(hG:GL w)(h:airchecklaw35_sane.f=some r):Calls Tryd.prog 9 #[] w fun e w'=>e=.returned (.bool r)∧Below w.heap.size w w':=by
 obtain rfl:=Option.some.inj h;exact sane_walk (fun v=>by rw[<-v_key1];exact key_walk 1 (by decide) v) w hG
end Go.Proofs.YtfdlmpicmkpabaaDoor.Ext
end
section
namespace Go.Proofs.YtfdlmpicmkpabaaDoor.Ext
set_option maxRecDepth 100000
open Go.RowKit Go.Proofs.YtfdlmpicmkpabaaDoorW.PrintWords Go.Proofs.YtfdlmpicmkpabaaDoorW.PrintLast Go.Proofs.YtfdlmpicmkpabaaDoorW.PrintMore
def addF(st:Int)(rs:List Rec)(r:Rec):Int × List Rec × Int:=if validB st rs&&validB st (rs++[r]) then (st,rs++[r],0) else (0,[],350)
theorem add_is(st:Int)(rs:List Rec)(r:Rec)(hn:rs.length<=1000000):PB.logbook_Add.f (rs.length+3) st rs r.f0 r.f1 r.f2 r.f3 r.f4=some (addF st rs r):=by
 unfold PB.logbook_Add.f addF;rw[Option.bind_some,if_pos (by simp;omega),Option.bind_some,Option.bind_some,if_pos (by simp;omega),Option.bind_some,valid_is _ _ _ (by omega) (by omega),Option.bind_some];rw[show ([]++rs:List Rec)++[(⟨r.f0,r.f1,r.f2,r.f3,r.f4⟩:Rec)]=rs++[r] by simp]
 cases h1:validB st rs with
 |true=>
  rw[if_pos rfl,valid_is _ _ _ (by simp;omega) (by simp),Option.bind_some]
  cases h2:validB st (rs++[r]) with
  |true=>rfl
  |false=>rfl
 |false=>rfl
def logbook_Add.f(a0_0:Int)(l0_1:List Rec)(a1_0:Int)(a1_1:Int)(a1_2:Int)(a1_3:Int)(a1_4:ByteArray):Option (Int × List Rec × Int):=if few6 l0_1 then some (addF a0_0 l0_1 ⟨a1_0,a1_1,a1_2,a1_3,a1_4⟩) else none
theorem logbook_Add.calls(a0_0:Int)(A0_1:Option Addr)(c0_1:Nat)(l0_1:List Rec)(a1_0:Int)(a1_1:Int)(a1_2:Int)(a1_3:Int)(a1_4:ByteArray)(r1:Int)(r2:List Rec)(r3:Int)(w:World)(hr0_1:Kd.C kRec w A0_1 l0_1.length l0_1)(hc0_1:l0_1.length<=c0_1)(h:logbook_Add.f a0_0 l0_1 a1_0 a1_1 a1_2 a1_3 a1_4=some (r1,r2,r3)):
  Calls Tryd.prog 24 #[.agg #[.int .i64 a0_0,.slice A0_1 l0_1.length c0_1],.agg #[.int .i64 a1_0,.int .i64 a1_1,.int .i64 a1_2,.int .i64 a1_3,.string a1_4]] w fun e w'=>∃v1_:Value,e=.returned (.tuple #[.agg #[.int .i64 r1,v1_],.int .i64 r3])∧Kd.R kRec 43 w' w.heap.size (fun _=>True) v1_ r2∧Below w.heap.size w w':=by
 unfold logbook_Add.f at h
 split at h
 ·rename_i hs;exact PB.logbook_Add.calls (l0_1.length+3) a0_0 A0_1 c0_1 l0_1 a1_0 a1_1 a1_2 a1_3 a1_4 r1 r2 r3 w hr0_1 hc0_1 ((add_is a0_0 l0_1 ⟨a1_0,a1_1,a1_2,a1_3,a1_4⟩ hs).trans h)
 ·cases h
def logbook_Valid.f(a0_0:Int)(l0_1:List Rec):Option Bool:=if few6 l0_1 then some (validB a0_0 l0_1) else none
theorem logbook_Valid.calls(a0_0:Int)(A0_1:Option Addr)(c0_1:Nat)(l0_1:List Rec)(r:Bool)(w:World)(hr0_1:Kd.C kRec w A0_1 l0_1.length l0_1)(hc0_1:l0_1.length<=c0_1)(h:logbook_Valid.f a0_0 l0_1=some r):
  Calls Tryd.prog 26 #[.agg #[.int .i64 a0_0,.slice A0_1 l0_1.length c0_1]] w fun e w'=>e=.returned (.bool r)∧Below w.heap.size w w':=by
 unfold logbook_Valid.f at h
 split at h
 ·rename_i hs;obtain rfl:=Option.some.inj h;exact valid_walk a0_0 A0_1 _ c0_1 l0_1 rfl w hr0_1 hc0_1 (by unfold few6 at hs;omega)
 ·cases h
def aircheckref35_Key.f(a0:Int):Option ByteArray:=if I63 a0 then some (keyF a0) else none
theorem aircheckref35_Key.calls(a0:Int)(r:ByteArray)(w:World)(h:aircheckref35_Key.f a0=some r):
  Calls Tryd.prog 11 #[.int .i64 a0] w fun e w'=>e=.returned (.string r)∧Below w.heap.size w w':=by
 unfold aircheckref35_Key.f at h
 split at h
 ·rename_i hs;obtain rfl:=Option.some.inj h;exact key_walk a0 hs w
 ·cases h
def aircheckref02_Sum.f(a0:ByteArray):Option ByteArray:=if a0.size<=100000 then some (hash a0) else none
theorem aircheckref02_Sum.calls(a0:ByteArray)(r:ByteArray)(w:World)(h:aircheckref02_Sum.f a0=some r):
  Calls Tryd.prog 46 #[.string a0] w fun e w'=>e=.returned (.string r)∧Below w.heap.size w w':=by
 unfold aircheckref02_Sum.f at h
 split at h
 ·rename_i hs;obtain rfl:=Option.some.inj h;exact PB.aircheckref02_Sum.calls (2*a0.size+400) a0 _ w (RefSpec.refsum_is a0 hs _ (Nat.le_refl _))
 ·cases h
end Go.Proofs.YtfdlmpicmkpabaaDoor.Ext
end
section
namespace Go.Proofs.YtfdlmpicmkpabaaDoor.LbSpec
set_option maxRecDepth 100000
open Go.RowKit Go.Proofs.YtfdlmpicmkpabaaDoorW.PrintWords Go.Proofs.YtfdlmpicmkpabaaDoorW.PrintLast Go.Proofs.YtfdlmpicmkpabaaDoorW.PrintMore Go.Proofs.YtfdlmpicmkpabaaDoor.Ext
set_option maxRecDepth 100000
theorem entF_ok(at_ x0 x1 x2 x3:Int):recB (entF at_ x0 x1 x2 x3)=true∧(entF at_ x0 x1 x2 x3).f1<=3:=by
 have r0:=pkN_range at_ 10000001 (by decide);have r1:=pkN_range x0 3 (by decide);have r2:=pkN_range x1 200 (by decide);have r3:=pkN_range x2 200 (by decide);have r4:=entT_size x3
 constructor
 ·unfold recB entF;simp only[decide_eq_true_eq];omega
 ·unfold entF;simp only;omega
def lastAt:Int->List Rec->Int
 |a,[]=>a
 |_,r::rs=>lastAt r.f0 rs
end Go.Proofs.YtfdlmpicmkpabaaDoor.LbSpec
end
section
namespace Go.Proofs.YtfdlmpicmkpabaaDoor.LbSpec
set_option maxRecDepth 100000
open Go.RowKit Go.Proofs.YtfdlmpicmkpabaaDoorW.PrintWords Go.Proofs.YtfdlmpicmkpabaaDoorW.PrintLast Go.Proofs.YtfdlmpicmkpabaaDoorW.PrintMore Go.Proofs.YtfdlmpicmkpabaaDoor.Ext Go.Proofs.YtfdlmpicmkpabaaDoor.PC
set_option maxRecDepth 100000
theorem encCut{a b:Int}{x y:List Nat}(h:Leb.enc a++x=Leb.enc b++y):a=b∧x=y:=by
 obtain⟨h1,h2⟩:=Leb.leb_prefix h;exact⟨Leb.zig_inj h1,h2⟩
theorem encL_bytes(l:List Int):∀b ∈ encL l,b<256:=by
 intro b hb;unfold encL at hb;obtain⟨c,hc,hbc⟩:=List.mem_flatten.1 hb;obtain⟨n,_,rfl⟩:=List.mem_map.1 hc;exact Leb.leb_bytes _ b hbc
theorem encR_bytes(r:Rec):∀b ∈ encR r,b<256:=by
 intro b hb;unfold encR at hb;rcases List.mem_append.1 hb with h |h
 ·exact encL_bytes _ b h
 ·rcases List.mem_append.1 h with h |h
  ·exact Leb.leb_bytes _ b h
  ·exact nat_lt r.f4 b h
theorem txt_nat(r:Rec):nat (txtR r)=encR r:=WireSpec.nat_str _ (encR_bytes r)
theorem encR_cut{a b:Rec}{y:List Nat}(h:encR a++y=encR b):a=b:=by
 unfold encR encL at h;simp only[List.map_cons,List.map_nil,List.flatten_cons,List.flatten_nil,List.append_nil,List.append_assoc] at h;obtain⟨h0,h⟩:=encCut h;obtain⟨h1,h⟩:=encCut h;obtain⟨h2,h⟩:=encCut h;obtain⟨h3,h⟩:=encCut h;obtain⟨h4,h⟩:=encCut h;have hl:(nat a.f4).length=(nat b.f4).length:=by rw[nat_length,nat_length];omega
 obtain⟨h5,_⟩:=List.append_inj (h.trans (List.append_nil _).symm) hl;have h6:=WireSpec.nat_inj h5
 cases a
 cases b
 simp only at h0 h1 h2 h3 h6;subst h0 h1 h2 h3 h6;rfl
theorem txt_inj{a b:Rec}(h:txtR a=txtR b):a=b:=encR_cut (y:=[]) (by rw[List.append_nil, <-txt_nat, <-txt_nat,h])
theorem txt_prefix{a b:Rec}(h:(txtR b).extract 0 (txtR a).size=txtR a):a=b:=by
 refine encR_cut (y:=(encR b).drop (txtR a).size) ?_;have h2:=congrArg nat h;rw[WireSpec.nat_extract,txt_nat,txt_nat,List.drop_zero,Nat.sub_zero] at h2;rw[<-h2];exact List.take_append_drop _ _
theorem encL_app(l:List Int)(x:Int):encL (l++[x])=encL l++Leb.enc x:=by simp[encL]
theorem rdI_yes(s:ByteArray):∀(k:Nat) (l:List Int) (y:List Nat),l.length=k->l.all encOk=true->nat s=encL l++y->rdI s k=some (l,((encL l).length:Int))
 |0,l,y,hl,_,_=>by
  obtain rfl:=List.eq_nil_of_length_eq_zero hl;rfl
 |k+1,l,y,hl,ho,h=>by
  rcases List.eq_nil_or_concat l with rfl |⟨l',x,rfl⟩
  ·cases hl
  ·rw[List.concat_eq_append] at*
   rw[List.all_append,Bool.and_eq_true] at ho;rw[List.length_append,List.length_singleton] at hl;rw[encL_app,List.append_assoc] at h;have hx:encOk x=true:=by simpa using ho.2
   have hx2:=of_decide_eq_true hx;have hsz:(encL l').length<=s.size:=by
    have:=congrArg List.length h;rw[nat_length,List.length_append] at this;omega
   have hd:(nat s).drop (encL l').length=Leb.enc x++y:=by rw[h,List.drop_left]
   have hdec:=WireSpec.dec_yes s (encL l').length hsz (z:=Leb.zig x) (y:=y) ⟨hd,WireSpec.zig_range (by omega) (by omega)⟩;rw[rdI,rdI_yes s k l' _ (by omega) ho.1 h];simp only[hdec,if_true];rw[Leb.zag_zig,encL_app,List.length_append];rfl
theorem rdI_inv(s:ByteArray):∀(k:Nat) (l:List Int) (a:Int),rdI s k=some (l,a)->∃y,nat s=encL l++y∧a=((encL l).length:Int)
 |0,l,a,h=>by
  simp only[rdI,Option.some.injEq,Prod.mk.injEq] at h;rw[<-h.1, <-h.2];exact⟨nat s,rfl,rfl⟩
 |k+1,l,a,h=>by
  rw[rdI] at h
  split at h
  ·cases h
  ·rename_i l' a' h';obtain⟨y,h1,h2⟩:=rdI_inv s k l' a' h'
   split at h
   ·rename_i he;injection h with h
    injection h with h3 h4
    have hsz:(encL l').length<=s.size:=by
     have:=congrArg List.length h1;rw[nat_length,List.length_append] at this;omega
    have hd:(nat s).drop (encL l').length=y:=by rw[h1,List.drop_left]
    rw[h2] at he h3 h4;rcases WireSpec.starts_or ((nat s).drop (encL l').length) with ⟨z,y',hz⟩ |hn
    ·rw[WireSpec.dec_yes s _ hsz hz] at h3 h4;simp only at h3 h4;refine⟨y',?_,?_⟩
     ·rw[<-h3,encL_app,h1, <-hd,hz.1,List.append_assoc];unfold Leb.enc;rw[Leb.zig_zag]
     ·rw[<-h4, <-h3,encL_app,List.length_append];unfold Leb.enc;rw[Leb.zig_zag]
    ·rw[WireSpec.dec_no s _ hsz hn] at he
     cases he
   ·cases h
theorem dec_enc(r:Rec)(hr:recB r=true):decF (txtR r)=(r,0):=by
 have hb:=recB_true hr;have hf:=fld_ok hr;have hn:=txt_nat r;have hsz:(txtR r).size=(encR r).length:=by rw[WireSpec.size_nat,hn]
 have hl9:=enc_len _ hf;simp only[List.length_cons,List.length_nil] at hl9;have hE:encR r=encL [r.f0,r.f1,r.f2,r.f3]++(Leb.enc (r.f4.size:Int)++nat r.f4):=rfl;have hs3:=WireSpec.enc_len r.f4.size (by omega);have hlen:(encR r).length=(encL [r.f0,r.f1,r.f2,r.f3]).length+((Leb.enc (r.f4.size:Int)).length+r.f4.size):=by rw[hE,List.length_append,List.length_append,nat_length]
 have hrd:=rdI_yes (txtR r) 4 [r.f0,r.f1,r.f2,r.f3] _ rfl hf (hn.trans hE);have hst:WireSpec.StartsS ((nat (txtR r)).drop (encL [r.f0,r.f1,r.f2,r.f3]).length) (nat r.f4) []:=by
  refine⟨?_,by rw[nat_length];omega⟩;rw[hn,hE,List.drop_left,nat_length,List.append_nil]
 obtain⟨t,ht,htn⟩:=WireSpec.str_yes (txtR r) (by omega) (encL [r.f0,r.f1,r.f2,r.f3]).length (by omega) 12 (by omega) hst;obtain rfl:=WireSpec.nat_inj htn;unfold decF;rw[hrd];simp only;rw[ht];simp only;have hrec:recOf [r.f0,r.f1,r.f2,r.f3] r.f4=r:=rfl;rw[if_pos trivial,hrec,if_neg];rw[hr,nat_length];simp;omega
theorem enc_dec{z:ByteArray}(hz:z.size<=1000000)(h:(decF z).2=0):recB (decF z).1=true∧txtR (decF z).1=z:=by
 unfold decF at h ⊢
 cases hr:rdI z 4 with
 |none=>rw[hr] at h;cases h
 |some p=>
  obtain⟨l,a⟩:=p;rw[hr] at h;simp only at h ⊢;obtain⟨y,h1,h2⟩:=rdI_inv z 4 l a hr;have hl:=rdI_len hr;have hlen:=congrArg List.length h1;rw[nat_length,List.length_append] at hlen;have hd:(nat z).drop (encL l).length=y:=by rw[h1,List.drop_left]
  rw[h2] at h ⊢;rcases WireSpec.startsS_or ((nat z).drop (encL l).length) with ⟨t,y',hs⟩ |hn
  ·obtain⟨t',ht,htn⟩:=WireSpec.str_yes z (by omega) (encL l).length (by omega) 12 (by omega) hs;rw[ht] at h ⊢;simp only[if_true] at h ⊢
   split at h
   ·cases h
   ·rename_i hc;rw[if_neg hc];have hc1:¬((((encL l).length+(Leb.enc (t.length:Int)).length+t.length:Nat):Int)<(z.size:Int)):=fun e=>hc (.inl e)
    have hc2:recB (recOf l t')=true:=by
     cases hq:recB (recOf l t') with
     |true=>rfl
     |false=>exact absurd (.inr hq) hc
    refine⟨hc2,WireSpec.nat_inj ?_⟩;have hs1:=hs.1;rw[hd] at hs1;have hy:y'=[]:=by
     have:=congrArg List.length hs1;rw[List.length_append,List.length_append] at this;exact List.eq_nil_of_length_eq_zero (by omega)
    rw[txt_nat,h1,hs1,hy,List.append_nil]
    match l,hl with
    | [q0,q1,q2,q3],_=>
     show encL [q0,q1,q2,q3]++(Leb.enc (t'.size:Int)++nat t')=_
     rw[htn,show t'.size=t.length by rw[<-htn,nat_length]]
  ·rw[WireSpec.str_no z (by omega) (encL l).length (by omega) 12 (by omega) hn] at h
   cases h
end Go.Proofs.YtfdlmpicmkpabaaDoor.LbSpec
end
