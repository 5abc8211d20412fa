import Derived.Test.YtfdlmpicmkpabaaDoorMLogbookSignedaw
import Derived.Test.YtfdlmpicmkpabaaDoorMLogbookSignedbg
/-
  Texts of this claim, one behind the other: what they prove stands above each.
-/
section
namespace Go.Proofs.YtfdlmpicmkpabaaDoor.Ext
set_option maxRecDepth 100000
open Go.RowKit Go.Shelf Go.Proofs.YtfdlmpicmkpabaaDoorW.PrintWords Go.Proofs.YtfdlmpicmkpabaaDoorW.PrintLast Go.Proofs.YtfdlmpicmkpabaaDoorW.PrintMore
attribute [local go_sem] Oper.semAt_some
theorem strs_row{w:World}{g:Nat}{t:TypeId}{l:List ByteArray}{n:Nat}(h:Blk w g t (l.map Value.string))(hl:l.length=n)(hn:n<=1000000):Kd.C Kd.string w (some ⟨g,0,none⟩) n l:=by
 refine⟨hl,by omega,fun _=>⟨_,rfl,fun j p hj=>⟨[.string p],rfl,rfl,?_⟩⟩⟩;intro i u hi;have:i=0:=by have:=(List.getElem?_eq_some_iff.1 hi).1;simpa using this
 subst this;simp only[List.getElem?_cons_zero,Option.some.injEq] at hi;subst hi;have:(⟨g,0,none⟩:Addr).add (j*Kd.string.sz+0)=⟨g,j,none⟩:=by
  rw[show j*Kd.string.sz+0=j by show j*1+0=j;omega,Addr.add_mid,Nat.zero_add]
 rw[this];exact h.cell (by rw[List.getElem?_map,hj];rfl)
theorem txt_size{r:Rec}(h:recB r=true):(txtR r).size<=300:=by
 have h1:=enc_len _ (fld_ok h);have h2:=recB_true h;have h3:=WireSpec.enc_len r.f4.size (by omega);unfold txtR encR;rw[str_size,List.length_append,List.length_append,Qbu];simp only[List.length_cons,List.length_nil] at h1;omega
def Qci(rs:List Rec):List ByteArray:=rs.map txtR
theorem codes_fits{st:Int}{rs:List Rec}(h:Qcv st rs=true):fits (Qci rs):=by
 have hv:=valid_all h;refine⟨by unfold Qci;rw[List.length_map];omega,fun x hx=>?_⟩;obtain⟨r,hr,rfl⟩:=List.mem_map.1 hx;have:=txt_size (hv.1 r hr);omega
def rootOf(rs:List Rec):ByteArray:=Tree.root dE dL dN (Qci rs)
def headF(st:Int)(rs:List Rec):ByteArray × Int:=if Qcv st rs then (rootOf rs,0) else (⟨#[]⟩,350)
theorem codes_walk(st:Int)(A:Option Addr)(n c:Nat)(rs:List Rec)(hl:rs.length=n)(w:World)(hC:Kd.C kRec w A n rs)(hc:n<=c)(hn:n<=1000000)(hA:∀ad,A=some ad->0<n->ad.block<w.heap.size)(hv:Qcv st rs=true):
  Calls Tryd.prog 48 #[.agg #[.int .i64 st,.slice A n c]] w fun e w'=>∃g,e=.returned (.tuple #[.slice (some ⟨g,0,none⟩) n n,.bool true])∧Kd.C Kd.string w' (some ⟨g,0,none⟩) n (Qci rs)∧Below w.heap.size w w':=
 (codes_yes st A n c rs hl w hC hc hn hA hv).mono fun e w' ⟨g,he,_,hb,hB⟩=>⟨g,he,strs_row (l:=Qci rs) (by unfold Qci;rw[List.map_map];exact hb) (by unfold Qci;rw[List.length_map];exact hl) hn,hB⟩
theorem C_lt{w:World}{A:Option Addr}{n:Nat}{rs:List Rec}(h:Kd.C kRec w A n rs):∀ad,A=some ad->0<n->ad.block<w.heap.size:=by
 rintro ad rfl hn
 obtain⟨ad',e,h0,_⟩:=at_T43 h 0 (by omega) (by omega);injection e with e
 subst e;have:=World.block_lt_of_cell? w _ h0
 rwa [add_blk] at this
theorem head_walk(st:Int)(A:Option Addr)(n c:Nat)(rs:List Rec)(hl:rs.length=n)(w:World)(hG:GL w)(hC:Kd.C kRec w A n rs)(hc:n<=c)(hn:n<=1000000):
  Calls Tryd.prog 13 #[.agg #[.int .i64 st,.slice A n c]] w fun e w'=>e=.returned (.tuple #[.string (headF st rs).1,.int .i64 (headF st rs).2])∧Below w.heap.size w w':=by
 have hb:=(Below.refl w.heap.size w).alloc (Nat.le_refl _) (.cells #[.int .i64 st,.slice A n c] 26);have hC1:=Kd.Qaz hC hb;have HG:=Lib.hid (hG.below hb);have HB:=Lib.hid hb
 cases hv:Qcv st rs with
 |false=>
  have hF:headF st rs=(⟨#[]⟩,350):=by unfold headF;rw[hv];rfl
  rw[hF];have HW:=Lib.hid (codes_no st A n c rs hl _ hC1 hc hn hv);clear hv hF hC1 hC hG hb
  go_enter Tryd.func13,Tryd.ntmps13
  go_wp2_with (first |(go_at_call 48;(with_reducible refine HW.out.mono ?_);rintro e w2 ⟨rfl,hb2⟩) |fail)
  go_ret2
  exact⟨rfl,Below.trans HB.out (hb2.mono HB.out.size)⟩
 |true=>
  have hF:headF st rs=(rootOf rs,0):=by unfold headF;rw[hv];rfl
  rw[hF];have HW:=Lib.hid (codes_walk st A n c rs hl _ hC1 hc hn (C_lt hC1) hv);have HFT:=Lib.hid (codes_fits hv);have HLN:Hid ((Qci rs).length=n):=Lib.hid (by unfold Qci;rw[List.length_map];exact hl);clear hv hF hC1 hC hG hb
  go_enter Tryd.func13,Tryd.ntmps13
  go_upto_region 4 with (first |(go_at_call 48;(with_reducible refine HW.out.mono ?_);rintro e w2 ⟨g,rfl,hC2,hb2⟩) |fail)
  have HR:Hid (Calls Tryd.prog 49 #[.slice (some ⟨g,0,none⟩) n n] w2 fun e w'=>e=.returned (.string (rootOf rs))∧Below w2.heap.size w2 w'):=Lib.hid (by
   have hln:=HLN.out;have:=digest_Root.calls (some ⟨g,0,none⟩) n (Qci rs) (rootOf rs) w2 (by rw[hln];exact hC2) (by omega) (HG.out.below hb2) (by unfold digest_Root.f;rw[if_pos HFT.out];rfl)
   rwa [hln] at this)
  go_wp2_with (first |(go_at_call 49;(with_reducible refine HR.out.mono ?_);rintro e w3 ⟨rfl,hb3⟩) |fail)
  go_ret2
  exact⟨rfl,Below.trans HB.out (Below.trans (hb2.mono HB.out.size) (hb3.mono (Nat.le_trans HB.out.size hb2.size)))⟩
end Go.Proofs.YtfdlmpicmkpabaaDoor.Ext
end
