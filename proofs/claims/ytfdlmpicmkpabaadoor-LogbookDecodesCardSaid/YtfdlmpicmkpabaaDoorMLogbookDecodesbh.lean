import Derived.Test.YtfdlmpicmkpabaaDoorMLogbookDecodesbg
import Derived.Test.YtfdlmpicmkpabaaDoorMLogbookDecodesaw
/-
  Texts of this claim, one behind the other: what they prove stands above each.
-/
set_option linter.unusedVariables false
set_option linter.unusedSimpArgs false
section
namespace Go.Proofs.YtfdlmpicmkpabaaDoor.Ext
set_option maxRecDepth 100000
open Go.RowKit Go.Shelf Go.Proofs.YtfdlmpicmkpabaaDoorW.PrintWords Go.Proofs.YtfdlmpicmkpabaaDoorW.PrintLast Go.Proofs.YtfdlmpicmkpabaaDoorW.PrintMore
attribute [local go_sem] Oper.semAt_some
attribute [local go_sem ↓] Go.wp_at_zero Go.wp_at_succ
theorem R_nil(w:World)(N:Nat):Kd.R Kd.string 9 w N (fun _=>True) (.slice none 0 0) []:=⟨fun _ _=>trivial,OwnRow.none_ _ _ _ _ _⟩
theorem Proof_odd(A:Option Addr)(c n:Nat)(i:Int)(w:World)(hi:¬(0<=i∧i<n)):
  Calls Tryd.prog 67 #[.slice A n c,.int .i64 i] w fun e w'=>e=.returned (.tuple #[.slice none 0 0,.int .i64 2])∧w'=w:=by
 by_cases h0:i<0
 ·have d1:decide (i<0)=true:=decide_eq_true h0
  go_enter Tryd.func67,Tryd.ntmps67
  go_wp2
  go_step3
  go_wp2
  rw[Exit.noGoto_ret];go_ret2;exact⟨rfl,rfl⟩
 ·have d1:decide (i<0)=false:=decide_eq_false h0;have d2:decide ((n:Int)<=i)=true:=decide_eq_true (by omega)
  go_enter Tryd.func67,Tryd.ntmps67
  go_wp2
  go_step3
  go_wp2
  rw[Exit.noGoto_ret];go_ret2;exact⟨rfl,rfl⟩
theorem Extension_odd(A:Option Addr)(c n:Nat)(m:Int)(w:World)(hi:¬(0<=m∧m<=n)):
  Calls Tryd.prog 72 #[.slice A n c,.int .i64 m] w fun e w'=>e=.returned (.tuple #[.slice none 0 0,.int .i64 2])∧w'=w:=by
 by_cases h0:m<0
 ·have d1:decide (m<0)=true:=decide_eq_true h0
  go_enter Tryd.func72,Tryd.ntmps72
  go_wp2
  go_ret2
  exact⟨rfl,rfl⟩
 ·have d1:decide (m<0)=false:=decide_eq_false h0;have d2:decide ((n:Int)<m)=true:=decide_eq_true (by omega)
  go_enter Tryd.func72,Tryd.ntmps72
  go_wp2
  go_ret2
  exact⟨rfl,rfl⟩
theorem Extension_zero(A:Option Addr)(c n:Nat)(w:World):
  Calls Tryd.prog 72 #[.slice A n c,.int .i64 0] w fun e w'=>e=.returned (.tuple #[.slice none 0 0,.int .i64 0])∧w'=w:=by
 have d2:decide ((n:Int)<0)=false:=decide_eq_false (by omega)
 go_enter Tryd.func72,Tryd.ntmps72
 go_wp2
 go_ret2
 exact⟨rfl,rfl⟩
def digest_Proof.f(l0:List ByteArray)(a1:Int):Option (List ByteArray × Int):=
 if fits l0 then (if 0<=a1∧a1<l0.length then some ((Tree.proofR dE dL dN l0 a1.toNat).reverse,0) else some ([],2)) else none
theorem digest_Proof.calls(A0:Option Addr)(c0:Nat)(l0:List ByteArray)(a1:Int)(r1:List ByteArray)(r2:Int)(w:World)(hr0:Kd.C Kd.string w A0 l0.length l0)(hc0:l0.length<=c0)(hG:GL w)(h:digest_Proof.f l0 a1=some (r1,r2)):
  Calls Tryd.prog 67 #[.slice A0 l0.length c0,.int .i64 a1] w fun e w'=>∃v0_:Value,e=.returned (.tuple #[v0_,.int .i64 r2])∧Kd.R Kd.string 9 w' w.heap.size (fun _=>True) v0_ r1∧Below w.heap.size w w':=by
 unfold digest_Proof.f at h
 split at h
 ·rename_i hf
  split at h
  ·rename_i hc;obtain⟨rfl,rfl⟩:=Prod.mk.inj (Option.some.inj h);obtain⟨i,rfl⟩:=Int.eq_ofNat_of_zero_le hc.1;obtain⟨ad,rfl,_⟩:=hr0.2.2 (by omega);exact Proof_walk ad c0 l0 i w hG hr0 hc0 hf.1 hf.2 (by omega)
  ·rename_i hc;obtain⟨rfl,rfl⟩:=Prod.mk.inj (Option.some.inj h);exact (Proof_odd A0 c0 l0.length a1 w hc).mono fun e w' ⟨he,hw⟩=>⟨_,he,R_nil _ _,hw ▸ Below.refl _ _⟩
 ·cases h
def digest_Extension.f(l0:List ByteArray)(a1:Int):Option (List ByteArray × Int):=
 if fits l0 then (if 0<=a1∧a1<=l0.length then (if a1=0 then some ([],0) else some ((Tree.partR dE dL dN l0 a1.toNat true).reverse,0)) else some ([],2)) else none
theorem digest_Extension.calls(A0:Option Addr)(c0:Nat)(l0:List ByteArray)(a1:Int)(r1:List ByteArray)(r2:Int)(w:World)(hr0:Kd.C Kd.string w A0 l0.length l0)(hc0:l0.length<=c0)(hG:GL w)(h:digest_Extension.f l0 a1=some (r1,r2)):
  Calls Tryd.prog 72 #[.slice A0 l0.length c0,.int .i64 a1] w fun e w'=>∃v0_:Value,e=.returned (.tuple #[v0_,.int .i64 r2])∧Kd.R Kd.string 9 w' w.heap.size (fun _=>True) v0_ r1∧Below w.heap.size w w':=by
 unfold digest_Extension.f at h
 split at h
 ·rename_i hf
  split at h
  ·rename_i hc
   split at h
   ·rename_i h0;subst h0;obtain⟨rfl,rfl⟩:=Prod.mk.inj (Option.some.inj h);exact (Extension_zero A0 c0 l0.length w).mono fun e w' ⟨he,hw⟩=>⟨_,he,R_nil _ _,hw ▸ Below.refl _ _⟩
   ·rename_i h0;obtain⟨rfl,rfl⟩:=Prod.mk.inj (Option.some.inj h);obtain⟨i,rfl⟩:=Int.eq_ofNat_of_zero_le hc.1;obtain⟨ad,rfl,_⟩:=hr0.2.2 (by omega);exact Extension_walk ad c0 l0 i w hG hr0 hc0 hf.1 hf.2 (by omega) (by omega)
  ·rename_i hc;obtain⟨rfl,rfl⟩:=Prod.mk.inj (Option.some.inj h);exact (Extension_odd A0 c0 l0.length a1 w hc).mono fun e w' ⟨he,hw⟩=>⟨_,he,R_nil _ _,hw ▸ Below.refl _ _⟩
 ·cases h
end Go.Proofs.YtfdlmpicmkpabaaDoor.Ext
end
section
namespace Go.Proofs.YtfdlmpicmkpabaaDoor.Ext
set_option maxRecDepth 100000
open Go.RowKit Go.Shelf Go.Proofs.YtfdlmpicmkpabaaDoorW.PrintWords Go.Proofs.YtfdlmpicmkpabaaDoorW.PrintLast Go.Proofs.YtfdlmpicmkpabaaDoorW.PrintMore
attribute [local go_sem] Oper.semAt_some
theorem strs_row{w:World}{g:Nat}{t:TypeId}{l:List ByteArray}{n:Nat}(h:Blk w g t (l.map Value.string))(hl:l.length=n)(hn:n<=1000000):Kd.C Kd.string w (some ⟨g,0,none⟩) n l:=by
 refine⟨hl,by omega,fun _=>⟨_,rfl,fun j p hj=>⟨[.string p],rfl,rfl,?_⟩⟩⟩;intro i u hi;have:i=0:=by have:=(List.getElem?_eq_some_iff.1 hi).1;simpa using this
 subst this;simp only[List.getElem?_cons_zero,Option.some.injEq] at hi;subst hi;have:(⟨g,0,none⟩:Addr).add (j*Kd.string.sz+0)=⟨g,j,none⟩:=by
  rw[show j*Kd.string.sz+0=j by show j*1+0=j;omega,Addr.add_mid,Nat.zero_add]
 rw[this];exact h.cell (by rw[List.getElem?_map,hj];rfl)
theorem txt_size{r:Rec}(h:recB r=true):(txtR r).size<=300:=by
 have h1:=enc_len _ (fld_ok h);have h2:=recB_true h;have h3:=WireSpec.enc_len r.f4.size (by omega);unfold txtR encR;rw[str_size,List.length_append,List.length_append,nat_length];simp only[List.length_cons,List.length_nil] at h1;omega
def codesOf(rs:List Rec):List ByteArray:=rs.map txtR
theorem codes_fits{st:Int}{rs:List Rec}(h:validB st rs=true):fits (codesOf rs):=by
 have hv:=valid_all h;refine⟨by unfold codesOf;rw[List.length_map];omega,fun x hx=>?_⟩;obtain⟨r,hr,rfl⟩:=List.mem_map.1 hx;have:=txt_size (hv.1 r hr);omega
def rootOf(rs:List Rec):ByteArray:=Tree.root dE dL dN (codesOf rs)
def headF(st:Int)(rs:List Rec):ByteArray × Int:=if validB st rs then (rootOf rs,0) else (⟨#[]⟩,350)
theorem codes_walk(st:Int)(A:Option Addr)(n c:Nat)(rs:List Rec)(hl:rs.length=n)(w:World)(hC:Kd.C kRec w A n rs)(hc:n<=c)(hn:n<=1000000)(hA:∀ad,A=some ad->0<n->ad.block<w.heap.size)(hv:validB st rs=true):
  Calls Tryd.prog 48 #[.agg #[.int .i64 st,.slice A n c]] w fun e w'=>∃g,e=.returned (.tuple #[.slice (some ⟨g,0,none⟩) n n,.bool true])∧Kd.C Kd.string w' (some ⟨g,0,none⟩) n (codesOf rs)∧Below w.heap.size w w':=
 (codes_yes st A n c rs hl w hC hc hn hA hv).mono fun e w' ⟨g,he,_,hb,hB⟩=>⟨g,he,strs_row (l:=codesOf rs) (by unfold codesOf;rw[List.map_map];exact hb) (by unfold codesOf;rw[List.length_map];exact hl) hn,hB⟩
theorem C_lt{w:World}{A:Option Addr}{n:Nat}{rs:List Rec}(h:Kd.C kRec w A n rs):∀ad,A=some ad->0<n->ad.block<w.heap.size:=by
 rintro ad rfl hn
 obtain⟨ad',e,h0,_⟩:=at_T43 h 0 (by omega) (by omega);injection e with e
 subst e;have:=World.block_lt_of_cell? w _ h0
 rwa [add_blk] at this
theorem head_walk(st:Int)(A:Option Addr)(n c:Nat)(rs:List Rec)(hl:rs.length=n)(w:World)(hG:GL w)(hC:Kd.C kRec w A n rs)(hc:n<=c)(hn:n<=1000000):
  Calls Tryd.prog 13 #[.agg #[.int .i64 st,.slice A n c]] w fun e w'=>e=.returned (.tuple #[.string (headF st rs).1,.int .i64 (headF st rs).2])∧Below w.heap.size w w':=by
 have hb:=(Below.refl w.heap.size w).alloc (Nat.le_refl _) (.cells #[.int .i64 st,.slice A n c] 26);have hC1:=Kd.C_below hC hb;have HG:=Lib.hid (hG.below hb);have HB:=Lib.hid hb
 cases hv:validB st rs with
 |false=>
  have hF:headF st rs=(⟨#[]⟩,350):=by unfold headF;rw[hv];rfl
  rw[hF];have HW:=Lib.hid (codes_no st A n c rs hl _ hC1 hc hn hv);clear hv hF hC1 hC hG hb
  go_enter Tryd.func13,Tryd.ntmps13
  go_wp2_with (first |(go_at_call 48;(with_reducible refine HW.out.mono ?_);rintro e w2 ⟨rfl,hb2⟩) |fail)
  go_ret2
  exact⟨rfl,Below.trans HB.out (hb2.mono HB.out.size)⟩
 |true=>
  have hF:headF st rs=(rootOf rs,0):=by unfold headF;rw[hv];rfl
  rw[hF];have HW:=Lib.hid (codes_walk st A n c rs hl _ hC1 hc hn (C_lt hC1) hv);have HFT:=Lib.hid (codes_fits hv);have HLN:Hid ((codesOf rs).length=n):=Lib.hid (by unfold codesOf;rw[List.length_map];exact hl);clear hv hF hC1 hC hG hb
  go_enter Tryd.func13,Tryd.ntmps13
  go_upto_region 4 with (first |(go_at_call 48;(with_reducible refine HW.out.mono ?_);rintro e w2 ⟨g,rfl,hC2,hb2⟩) |fail)
  have HR:Hid (Calls Tryd.prog 49 #[.slice (some ⟨g,0,none⟩) n n] w2 fun e w'=>e=.returned (.string (rootOf rs))∧Below w2.heap.size w2 w'):=Lib.hid (by
   have hln:=HLN.out;have:=digest_Root.calls (some ⟨g,0,none⟩) n (codesOf rs) (rootOf rs) w2 (by rw[hln];exact hC2) (by omega) (HG.out.below hb2) (by unfold digest_Root.f;rw[if_pos HFT.out];rfl)
   rwa [hln] at this)
  go_wp2_with (first |(go_at_call 49;(with_reducible refine HR.out.mono ?_);rintro e w3 ⟨rfl,hb3⟩) |fail)
  go_ret2
  exact⟨rfl,Below.trans HB.out (Below.trans (hb2.mono HB.out.size) (hb3.mono (Nat.le_trans HB.out.size hb2.size)))⟩
end Go.Proofs.YtfdlmpicmkpabaaDoor.Ext
end
