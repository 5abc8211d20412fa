import Derived.Test.YtfdlmpicmkpabaaDoorMLogbookDecodesbl
import Derived.Test.YtfdlmpicmkpabaaDoorMLogbookDecodesao
import Derived.Test.YtfdlmpicmkpabaaDoorRows
import Derived.Test.YtfdlmpicmkpabaaDoorTie
import Derived.Test.YtfdlmpicmkpabaaDoorCards
import Derived.Test.YtfdlmpicmkpabaaDoorMLogbookDecodesap
import Derived.Test.YtfdlmpicmkpabaaDoorMLogbookDecodesac
import Derived.WalkKit
import Derived.ProofKit
import Derived.OpenShut
import Derived.ShutString
import Derived.ChangeOld
import Derived.Below
import Derived.SizedLaws
import Derived.LaidMore
import Derived.Stop.Joined
import Derived.SevenTiedAt
import Derived.SliceStrings
import Derived.Lib.LaidTab
/-
  The law's contract, its pure statement, its row and its card. Conditions: the row's own.
-/
set_option linter.unusedVariables false
set_option linter.unusedSimpArgs false
section
namespace Go.Proofs.YtfdlmpicmkpabaaDoor.PH
set_option maxRecDepth 100000
open Go.RowKit Go.Proofs.YtfdlmpicmkpabaaDoorW.PrintWords Go.Proofs.YtfdlmpicmkpabaaDoorW.PrintLast Go.Proofs.YtfdlmpicmkpabaaDoorW.PrintMore Go.Proofs.YtfdlmpicmkpabaaDoor.Ext Go.Proofs.YtfdlmpicmkpabaaDoor.LbSpec
def airchecklaw35_LogbookDecodes.f(k:Nat)(a0 x0 x1 x2 x3 a2 y0 y1 y2 y3:Int)(a4:ByteArray)(a5 a6:Int):Option Bool:=if (In a0∧In x0∧In x1∧In x2∧In x3)∧(In a2∧In y0∧In y1∧In y2∧In y3)∧(In a5∧0<=a6∧a6<=255) then some true else none
theorem airchecklaw35_LogbookDecodes.calls(k:Nat)(a0 x0 x1 x2 x3 a2 y0 y1 y2 y3:Int)(a4:ByteArray)(a5 a6:Int)(r:Bool)(w:World)(hG:GL w)(h:airchecklaw35_LogbookDecodes.f k a0 x0 x1 x2 x3 a2 y0 y1 y2 y3 a4 a5 a6=some r):
  Calls Tryd.prog 4 #[.int .i64 a0,.agg #[.int .i64 x0,.int .i64 x1,.int .i64 x2,.int .i64 x3],.int .i64 a2,.agg #[.int .i64 y0,.int .i64 y1,.int .i64 y2,.int .i64 y3],.string a4,.int .i64 a5,.int .u8 a6] w fun e w'=>e=.returned (.bool r)∧Below w.heap.size w w':=by
 unfold airchecklaw35_LogbookDecodes.f at h
 split at h
 ·rename_i hs;obtain rfl:=Option.some.inj h;obtain⟨⟨i0,j0,j1,j2,j3⟩,⟨i2,k0,k1,k2,k3⟩,i5,hc⟩:=hs;exact decodes_walk a0 x0 x1 x2 x3 a2 y0 y1 y2 y3 a4 a5 a6 i0 j0 j1 j2 j3 i2 k0 k1 k2 k3 i5 hc w hG
 ·cases h
end Go.Proofs.YtfdlmpicmkpabaaDoor.PH
namespace Go.Proofs.YtfdlmpicmkpabaaDoor.Pure
open Go.RowKit Go.Proofs.YtfdlmpicmkpabaaDoorW.PrintWords Go.Proofs.YtfdlmpicmkpabaaDoorW.PrintLast Go.Proofs.YtfdlmpicmkpabaaDoorW.PrintMore Go.Proofs.YtfdlmpicmkpabaaDoor.Ext Go.Proofs.YtfdlmpicmkpabaaDoor.LbSpec
theorem u8_wf{a:Int}(h:(Lit.int .u8 a).wf=true):0<=a∧a<=255:=by
 simpa [Lit.wf,IntKind.min,IntKind.max,IntKind.signed,IntKind.bits] using h
theorem LogbookDecodes(a0 x0 x1 x2 x3 a2 y0 y1 y2 y3:Int)(a4:ByteArray)(a5 a6:Int)(w0:(Lit.int .i64 a0).wf=true)(w1:W64 x0∧W64 x1∧W64 x2∧W64 x3)(w2:(Lit.int .i64 a2).wf=true)(w3:W64 y0∧W64 y1∧W64 y2∧W64 y3)(w4:a4.size<=140737488351232)(w5:(Lit.int .i64 a5).wf=true)(w6:(Lit.int .u8 a6).wf=true):
  ∃k,PH.airchecklaw35_LogbookDecodes.f k a0 x0 x1 x2 x3 a2 y0 y1 y2 y3 a4 a5 a6=some true:=
 ⟨0,if_pos ⟨⟨DigSpec.wf64 w0,DigSpec.wf64 w1.1,DigSpec.wf64 w1.2.1,DigSpec.wf64 w1.2.2.1,DigSpec.wf64 w1.2.2.2⟩,⟨DigSpec.wf64 w2,DigSpec.wf64 w3.1,DigSpec.wf64 w3.2.1,DigSpec.wf64 w3.2.2.1,DigSpec.wf64 w3.2.2.2⟩,DigSpec.wf64 w5,u8_wf w6⟩⟩
end Go.Proofs.YtfdlmpicmkpabaaDoor.Pure
end
section
namespace Go.Proofs.YtfdlmpicmkpabaaDoor.logbookDecodes
open Go.ChangeShapes Go.WideShapes Go.ChangeAt Go.RowKit
open Go.ChangeMaps (open_string shut_string)
theorem own:ownKnob Tryd.prog.godebug=none:=by kernel_rfl
theorem laidOut:laidOutB Tryd.prog=true:=by kernel_rfl
theorem door_met(os:Os)(args:Array Value):laidMetH Tryd.prog [("aircheck/digest.round",Rows.laid_aircheck_digest_round)] ((World.doorLaid Tryd.prog 400 os).forCall (fun _ _=>0) ⟨#[],args,[]⟩).memory:=
 laidMetH_of_parts3 (fuel:=8) (laidMet_of_run' 8 (by kernel_rfl) (by kernel_rfl)) (by kernel_rfl) (by kernel_rfl)
set_option maxRecDepth 100000 in
set_option maxHeartbeats 1000000 in
theorem lifted(os:Os)(started:os.Started)(H:Type)(enc:TypeId × Value->H):
  ReturnsInHanded {} Tryd.checked os 4 .any (fun w args=>(Rows.logbookDecodesSpec.pre enc Tryd.prog Tryd.f4 [] false w args∧laidMetH Tryd.prog [("aircheck/digest.round",Rows.laid_aircheck_digest_round)] w)∧sizedMet enc Tryd.prog Tryd.f4 (OpenSpec.ofChange Rows.logbookDecodesSpec) false w args)
   (Rows.logbookDecodesSpec.post enc Tryd.prog Tryd.f4 false true false false):=by
 refine returnsInHanded_of_change_and (C:=Tryd.checked) (X:=fun w _=>laidMetH Tryd.prog [("aircheck/digest.round",Rows.laid_aircheck_digest_round)] w) (fun _ _ _ hh h=>h.of_heap hh) own started (by kernel_rfl) Tryd.func4
  (ChangeSpec.witness_shaped (enc:=enc) (C:=Tryd.checked) (os:=os) (X:=fun w _=>laidMetH Tryd.prog [("aircheck/digest.round",Rows.laid_aircheck_digest_round)] w) false (World.doorLaid Tryd.prog 400 os) #[.int .i64 0,.agg #[.int .i64 0,.int .i64 0,.int .i64 0,.int .i64 0],.int .i64 0,.agg #[.int .i64 0,.int .i64 0,.int .i64 0,.int .i64 0],.string ByteArray.empty,.int .i64 0,.int .u8 0] 8 rfl (World.shaped_of_RefB (by kernel_rfl) (by kernel_rfl)) (by kernel_rfl) (by kernel_rfl) (by kernel_rfl) (door_met os _)) ?_
 intro W base args ds gs before hval0 hW hcnd hsz0 hL _;have hsz:(DataW.weightsEach Tryd.prog (Tryd.f4.params.toList++Rows.logbookDecodesSpec.plain.varTypes Tryd.prog) (ds++gs)).all (· <=reachBytes)=true:=hsz0;have hval:∀(j:Nat) t v,Tryd.f4.params[j]?=some t->args[j]?=some v->Value.okWide Tryd.prog W .any base t v:=hval0
 have hW':=hW;obtain⟨p,q,hA0,hV,rfl,hfz,hnd⟩:=hW;have hA:DataW.TrodAll enc Tryd.prog W 0 (fun _=>true) true Tryd.f4.params.toList args.toList ds p:=hA0;rw[Tryd.params4] at hA hval hsz;obtain⟨v0,vs0,d0,ds0,p0,q0,hargs,rfl,rfl,h0,r0⟩:=trodAll_cons hA;obtain⟨v1,vs1,d1,ds1,p1,q1,rfl,rfl,rfl,h1,r1⟩:=trodAll_cons r0;obtain⟨v2,vs2,d2,ds2,p2,q2,rfl,rfl,rfl,h2,r2⟩:=trodAll_cons r1;obtain⟨v3,vs3,d3,ds3,p3,q3,rfl,rfl,rfl,h3,r3⟩:=trodAll_cons r2;obtain⟨v4,vs4,d4,ds4,p4,q4,rfl,rfl,rfl,h4,r4⟩:=trodAll_cons r3;obtain⟨v5,vs5,d5,ds5,p5,q5,rfl,rfl,rfl,h5,r5⟩:=trodAll_cons r4;obtain⟨v6,vs6,d6,ds6,p6,q6,rfl,rfl,rfl,h6,r6⟩:=trodAll_cons r5;obtain⟨rfl,rfl,rfl⟩:=trodAll_nil r6;obtain rfl:args= #[v0,v1,v2,v3,v4,v5,v6]:=by cases args;simp_all
 obtain⟨rfl,rfl⟩:=trodVars_none hV;obtain⟨a0,rfl,rfl,rfl,w0⟩:=open_int Tryd.underlying3 (hval 0 3 v0 rfl rfl) h0;have k1:=h1;have lt1:∀x ∈ p1,x.block<W.heap.size:=by obtain⟨m,hm⟩:=k1;exact DataW.trod_lt m _ _ _ hm
 obtain⟨a1_0,a1_1,a1_2,a1_3,rfl,w1⟩:=Ext.open_int4 Tryd.underlying41 Tryd.underlying3 (by kernel_rfl) (by kernel_rfl) (hval 1 41 v1 rfl rfl) h1;obtain⟨a2,rfl,rfl,rfl,w2⟩:=open_int Tryd.underlying3 (hval 2 3 v2 rfl rfl) h2;have k3:=h3;have lt3:∀x ∈ p3,x.block<W.heap.size:=by obtain⟨m,hm⟩:=k3;exact DataW.trod_lt m _ _ _ hm
 obtain⟨a3_0,a3_1,a3_2,a3_3,rfl,w3⟩:=Ext.open_int4 Tryd.underlying41 Tryd.underlying3 (by kernel_rfl) (by kernel_rfl) (hval 3 41 v3 rfl rfl) h3;obtain⟨a4,rfl,rfl,rfl,y4⟩:=open_string Tryd.underlying9 (hval 4 9 v4 rfl rfl) h4;have w4:a4.size<=140737488351232:=by
  have z:=sized_string hsz (j:=4) (t:=9) rfl rfl;rw[Array.length_toList] at z;exact z
 obtain⟨a5,rfl,rfl,rfl,w5⟩:=open_int Tryd.underlying3 (hval 5 3 v5 rfl rfl) h5;obtain⟨a6,rfl,rfl,rfl,w6⟩:=open_int Tryd.underlying5 (hval 6 5 v6 rfl rfl) h6;clear hA0 hval0 hsz0 hsz;have hG:Ext.GL W:=Ext.gl_of_laid hL;obtain⟨k,hk⟩:=Pure.LogbookDecodes a0 a1_0 a1_1 a1_2 a1_3 a2 a3_0 a3_1 a3_2 a3_3 a4 a5 a6 w0 w1 w2 w3 w4 w5 w6;refine (PH.airchecklaw35_LogbookDecodes.calls k a0 a1_0 a1_1 a1_2 a1_3 a2 a3_0 a3_1 a3_2 a3_3 a4 a5 a6 true W hG hk).mono fun e W' ⟨he,bel⟩=>?_
 subst he;exact⟨_,rfl,_,_,_,[],_,[],hW',trodAll_mk1 (shut_bool Tryd.underlying4 _),(trodAll_cons_mk (shut_int Tryd.underlying3 w0) (trodAll_cons_mk (Below.trod laidOut (by kernel_rfl) (of_decide_eq_true (by kernel_rfl)) k1 bel lt1) (trodAll_cons_mk (shut_int Tryd.underlying3 w2) (trodAll_cons_mk (Below.trod laidOut (by kernel_rfl) (of_decide_eq_true (by kernel_rfl)) k3 bel lt3) (trodAll_cons_mk (shut_string Tryd.underlying9 y4) (trodAll_cons_mk (shut_int Tryd.underlying3 w5) (trodAll_cons_mk (shut_int Tryd.underlying5 w6) trodAll_mk0))))))),rfl,bel.frame _,fun h=>by cases h⟩
theorem over:Rows.logbookDecodesRow.holds Tryd.pinned (OpenSpec.ofChange Rows.logbookDecodesSpec):=
 OpenClaim.holds_of_wide 4 Tryd.f4 rfl rfl rfl rfl rfl rfl rfl ⟨rfl,rfl,rfl,rfl,rfl⟩ rfl rfl rfl rfl rfl (by kernel_rfl) Tryd.func4 (by kernel_rfl)
  (of_decide_eq_true (by kernel_rfl)) (by unfold Func.isWrapper;first |(rw[if_pos (by decide+kernel)];kernel_rfl) |(rw[if_neg (by decide+kernel)];exact⟨rfl,rfl⟩))
  (fun os started H enc _=>lifted os started H enc)
theorem card_holds:Claim7.holds Tryd.pinned (.plain (OpenSpec.ofChange Rows.logbookDecodesSpec)) Rows.logbookDecodesCard:=
 Claim7.holds_tied_plain_at .later [] [.data] true (true,"5ce70843555c7c970a6d04322d33253341ba45aa19b436616530afadfd2e2009") true
  over (fun _ h=>by cases h) (by kernel_rfl) (fun _ h=>by cases h) logbookDecodes_row_tie rfl ⟨rfl,rfl⟩ (by kernel_rfl) rfl
  (fun f fn hf hfn=>by
   obtain rfl:f=4:=Option.some.inj ((show Tryd.prog.funcNamed "aircheck/airchecklaw35.LogbookDecodes" =some 4 by kernel_rfl).symm.trans hf) |>.symm
   obtain rfl:fn=Tryd.f4:=(Option.some.inj (Tryd.func4.symm.trans hfn)).symm;exact⟨by kernel_rfl,fun j t ht=>by
    rw[Tryd.params4] at ht;have hm:t ∈ [3,41,3,41,9,3,5]:=by simpa using Array.mem_of_getElem? ht
    have hall:([3,41,3,41,9,3,5].all fun u=> !Tryd.prog.wantsStandIn u)=true:=by kernel_rfl
    exact (show Tryd.prog.wantsStandIn t=false by simpa using List.all_eq_true.1 hall t hm)⟩)
  (by kernel_rfl)
end Go.Proofs.YtfdlmpicmkpabaaDoor.logbookDecodes
namespace Go.Proofs.YtfdlmpicmkpabaaDoor
theorem logbookDecodes_holds:Rows.LogbookDecodesCardSaid:=logbookDecodes.card_holds
#print axioms logbookDecodes_holds
end Go.Proofs.YtfdlmpicmkpabaaDoor
end
