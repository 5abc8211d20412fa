import Derived.Test.YtfdlmpicmkpabaaDoorMLogbookDecodesau
import Derived.Test.YtfdlmpicmkpabaaDoorMLogbookDecodesar
import Derived.Test.YtfdlmpicmkpabaaDoorMLogbookDecodesai
import Derived.Laws.MakeOwn
/-
  Texts of this claim, one behind the other: what they prove stands above each.
-/
set_option linter.unusedVariables false
set_option linter.unusedSimpArgs false
section
namespace Go.Proofs.YtfdlmpicmkpabaaDoor.Ext
set_option maxRecDepth 100000
open Go.RowKit Go.Shelf Go.Proofs.YtfdlmpicmkpabaaDoorW.PrintWords Go.Proofs.YtfdlmpicmkpabaaDoorW.PrintLast Go.Proofs.YtfdlmpicmkpabaaDoorW.PrintMore
attribute [local go_sem] Oper.semAt_some
theorem keepB{w1 w2:World}{a:Addr}{v:Value}(hb:Below w1.heap.size w1 w2)(h:w1.cell? a=some v):w2.cell? a=some v:=(hb.cell (World.block_lt_of_cell? _ _ h)).trans h
theorem grownBy_setCell1(W:World)(b o:Nat)(v:Value):W.grownBy (W.setCell ⟨b,o,none⟩ v) (some b):=
 ⟨rfl,rfl,rfl,(KeepsWalks.setCell W _ v).size,fun k _ hk=>Below.heap_setCell _ _ _ k (fun e=>hk (by rw[e]))⟩
theorem wp_rangeFunc_act{α:Type}{P:Program}{g:Operand}{ps:Array Tmp}{T:TypeId}{assign body:Code}{Q:Exit->Act->World->Prop}{a:Act}{w:World}
  {gf:Nat} {lb:Array Value} (hg:a.eval g=.func (.func gf) #[] lb) (eg:∀args w,(callFunc gf args).run P w=.ok (.enter gf args) w)
  {encs:α->Array Value} {xs:List α} {KS:Nat->Prop} {w0:World} (hZ:∀k,KS k->k<w.heap.size) (hseq:GivesAllK Fence.wide 4 P gf lb encs xs KS w0) (hb0:Below w0.heap.size w0 w) (hps:∀x,(encs x).size=ps.size)
  (C:α->List Value) (act:Array Value->α->Nat->Act) (hassign:∀(l:Nat) (x:α) (W:World) (K:Act->World->Prop),K (act a.tmps x W.heap.size) (W.alloc (.cells (C x).toArray T))->
   assign.wpIn (Fence.wide.inRound l) 3 P (Exit.then K (fun _ _ _=>False)) { tmps:=(ps.zip (encs x)).foldl (fun t (p,v)=>t.setIfInBounds p v) a.tmps,defers:=[] } W)
  (I:List α->World->Prop) (hI:OwnFrom w.heap.size I) (h0:I [] w)
  (hbody:∀(l:Nat) (pre:List α) (x:α) (B:Nat) (W:World),I pre W->Blk W B T (C x)->w.heap.size<=B->pre++[x]<+:xs->body.wpIn (Fence.wide.inRound l) 3 P (goesOnK w.heap.size KS I (pre++[x]) W) (act a.tmps x B) W)
  (hdone:∀(D:Nat) (W:World),w.heap.size<=D->I xs W->W.heap[D]?=some (.deferred (some []))->Q .normal { a with defers:={ target:=.collected D,args:= #[] }::a.defers } W):
  (Code.rangeFunc g ps assign body).wp P Q a w:=by
 refine (wpIn_wide (n:=5)).1 (wpIn_rangeFunc_keepA (F:=Fence.wide) (n:=5) rfl (by decide) hg trivial eg hZ hseq hb0 hps I hI h0
  (fun x a' W=>∃B,a'=act a.tmps x B∧(∃o:Obj,o.isCells=true∧W.heap[B]?=some o)∧Blk W B T (C x)∧w.heap.size<=B) ?_ ?_ ?_ hdone)
 ·rintro x a' s W W' row ⟨B,ha,ho,hb,hB⟩ hgr hr
  have hne:some B≠row:=fun e=>by
   obtain⟨_,o,ho',hc'⟩:=hr B e.symm;rw[hb.heap] at ho';injection ho' with ho'
   subst ho';simp[Obj.isCells] at hc'
  exact⟨B,ha,⟨_,rfl,(hb.grown hgr hne).heap⟩,hb.grown hgr hne,hB⟩
 ·intro l x W K hsz hK;refine hassign l x W K (hK _ _ (World.grownBy_alloc W _ none) ⟨W.heap.size,rfl,⟨_,rfl,(Blk.new W T (C x)).heap⟩,Blk.new W T (C x),hsz⟩)
 ·rintro l pre x a' W hI' ⟨B,rfl,_,hb,hB⟩ hpre
  exact hbody l pre x B W hI' hb hB hpre
def fillC(n:Nat)(pre:List (Nat × Rec)):List Value:=pre.foldl (fun l p=>l.set p.1 (.string (encF p.2).1)) (List.replicate n (.string ⟨#[]⟩))
theorem fillC_snoc(n:Nat)(pre:List (Nat × Rec))(p:Nat × Rec):fillC n (pre++[p])=(fillC n pre).set p.1 (.string (encF p.2).1):=by simp[fillC]
theorem fillC_len(n:Nat)(pre:List (Nat × Rec)):(fillC n pre).length=n:=by
 unfold fillC;have:∀(l:List Value),(pre.foldl (fun l p=>l.set p.1 (.string (encF p.2).1)) l).length=l.length:=by
  induction pre with
  |nil=>intro l;rfl
  |cons p pre ih=>intro l;rw[List.foldl_cons,ih,List.length_set]
 rw[this,List.length_replicate]
theorem fillC_take(rs:List Rec):∀j,j<=rs.length->fillC rs.length ((recsB rs).take j)=List.replicate (rs.length - j) (.string ⟨#[]⟩)++(rs.drop (rs.length - j)).map (fun r=>.string (encF r).1)
 |0,_=>by simp[fillC]
 |j+1,h=>by
  rw[recsB_step rs j (by omega),fillC_snoc,fillC_take rs j (by omega)];have e:rs.length - j=(rs.length - (j+1))+1:=by omega
  have hlt:rs.length - (j+1)<rs.length:=by omega
  rw[e,List.replicate_succ',show rs.length - 1 - j=rs.length - (j+1) by omega,List.append_assoc,List.set_append_right _ _ (by simp),List.length_replicate,Nat.sub_self,rec_drop hlt];simp
theorem fillC_all(rs:List Rec):fillC rs.length (recsB rs)=rs.map (fun r=>.string (encF r).1):=by
 have:=fillC_take rs rs.length (Nat.le_refl _);rw[List.take_of_length_le (by rw[recsB_len];exact Nat.le_refl _),Nat.sub_self] at this
 simpa using this
theorem made_strs(n:Nat):madeCells (Value.string ⟨#[]⟩).cells (n*1)=(List.replicate n (Value.string ⟨#[]⟩)).toArray:=by
 unfold madeCells;apply Array.ext
 ·simp
 ·intro i h1 h2;simp[Value.cells,Nat.mod_one]
theorem str_info:(Tryd.prog.info? 9).map (fun i=>(i.zero,i.size,i.bytes))=some (some (.string ⟨#[]⟩),1,16):=by kernel_rfl
theorem make_strs(n:Nat)(hn:n<=1000000)(W:World):(Instr.makeSlice 35 (.int .i64 (n:Int)) (.int .i64 (n:Int))).run Tryd.prog W=.ok (.slice (some ⟨W.heap.size,0,none⟩) n n) (W.alloc (.cells (List.replicate n (Value.string ⟨#[]⟩)).toArray 9)):=by
 obtain⟨i0,hi,hz0,hz1,hz2⟩:=info_parts str_info;have:=run_make (P:=Tryd.prog) W 35 9 i0 (.string ⟨#[]⟩) Tryd.underlying35 hi hz0 .i64 .i64 (n:Int) (n:Int) (by omega) (Int.le_refl _) (by rw[hz2];omega) (by omega);rw[hz1,Int.toNat_natCast,made_strs] at this;exact this
theorem recsB_mem{rs:List Rec}{p:Nat × Rec}(h:p ∈ recsB rs):p.1<rs.length:=by
 unfold recsB at h;obtain⟨i,hi,rfl⟩:=List.mem_map.1 h
 simpa using hi
theorem codes_no(st:Int)(A:Option Addr)(n c:Nat)(rs:List Rec)(hl:rs.length=n)(w:World)(hC:Kd.C kRec w A n rs)(hc:n<=c)(hn:n<=1000000)(hv:validB st rs=false):
  Calls Tryd.prog 48 #[.agg #[.int .i64 st,.slice A n c]] w fun e w'=>e=.returned (.tuple #[.slice none 0 0,.bool false])∧Below w.heap.size w w':=by
 have HV:=Lib.hid hv;have hb:=(Below.refl w.heap.size w).alloc (Nat.le_refl _) (.cells #[.int .i64 st,.slice A n c] 26);have HVW:=Lib.hid (fun W hW=>valid_walk st A n c rs hl W hW hc (by omega));have HC:=Lib.hid (Kd.C_below hC hb);have HB:=Lib.hid hb;clear hv hC hl hb
 go_enter Tryd.func48,Tryd.ntmps48
 go_wp2_with (first |(go_at_call 26;(with_reducible refine (HVW.out _ HC.out).mono ?_);rintro e w2 ⟨rfl,hb2⟩;rw[HV.out]) |fail)
 go_ret2
 exact⟨rfl,Below.trans HB.out (hb2.mono (by simp))⟩
set_option maxHeartbeats 4000000 in
theorem codes_yes(st:Int)(A:Option Addr)(n c:Nat)(rs:List Rec)(hl:rs.length=n)(w:World)(hC:Kd.C kRec w A n rs)(hc:n<=c)(hn:n<=1000000)(hA:∀ad,A=some ad->0<n->ad.block<w.heap.size)(hv:validB st rs=true):
  Calls Tryd.prog 48 #[.agg #[.int .i64 st,.slice A n c]] w fun e w'=>∃g,e=.returned (.tuple #[.slice (some ⟨g,0,none⟩) n n,.bool true])∧w.heap.size<=g∧Blk w' g 9 (rs.map (fun r=>.string (txtR r)))∧Below w.heap.size w w':=by
 have HV:=Lib.hid hv;have hb:=(Below.refl w.heap.size w).alloc (Nat.le_refl _) (.cells #[.int .i64 st,.slice A n c] 26);have HVW:=Lib.hid (fun W hW=>valid_walk st A n c rs hl W hW hc (by omega));have HC:=Lib.hid (Kd.C_below hC hb);have HB:=Lib.hid hb;have HL:=Lib.hid hl;have HA:=Lib.hid hA;have hx:=Blk.newA w 26 #[.int .i64 st,.slice A n c] [.int .i64 st,.slice A n c] rfl;have HX:=Lib.hid hx;have HS1:Hid ((w.alloc (.cells #[.int .i64 st,.slice A n c] 26)).heap.size=w.heap.size+1):=Lib.hid (by simp);clear hv hC hl hb hA hx;refine calls_of_wp_marks Tryd.func48 rfl ?_;simp only[Tryd.ntmps48,List.size_toArray,List.length_cons,List.length_nil,Nat.reduceAdd,Nat.reduceSub,Array.replicate_succ,Array.replicate_zero,List.push_toArray,List.append_toArray,List.nil_append,List.cons_append]
 go_upto_region 3 with (first |(go_at_call 26;(with_reducible refine (HVW.out _ HC.out).mono ?_);rintro e w2 ⟨rfl,hb2⟩;rw[HV.out]) |fail)
 have hx2:=HX.out.belowS hb2;have hC2:=Kd.C_below HC.out hb2;have hbw2:Below w.heap.size w w2:=Below.trans HB.out (hb2.mono (by simp));have hsz2:w.heap.size+1<=w2.heap.size:=by have:=hb2.size;have:=HS1.out;omega
 clear hb2 HVW HC HX HB HS1;have x1:=hx2.cell (j:=1) rfl;have hmk:=make_strs n hn w2
 go_upto_region 4 with (fail)
 have hG:Blk ((w2.alloc (.cells (Array.replicate n (.string ⟨#[]⟩)) 9)).alloc (.cells #[.slice (some ⟨w2.heap.size,0,none⟩) n n] 35)) w2.heap.size 9 (fillC n []):=(Blk.newA w2 _ _ _ (by simp[fillC])).alloc _;have hX:Blk ((w2.alloc (.cells (Array.replicate n (.string ⟨#[]⟩)) 9)).alloc (.cells #[.slice (some ⟨w2.heap.size,0,none⟩) n n] 35)) (w2.heap.size+1) 35 [.slice (some ⟨w2.heap.size,0,none⟩) n n]:=by
  have:=Blk.newA (w2.alloc (.cells (Array.replicate n (.string ⟨#[]⟩)) 9)) 35 #[.slice (some ⟨w2.heap.size,0,none⟩) n n] [.slice (some ⟨w2.heap.size,0,none⟩) n n] rfl
  rwa [World.size_alloc] at this
 have hx3:=(hx2.alloc (.cells (Array.replicate n (.string ⟨#[]⟩)) 9)).alloc (.cells #[.slice (some ⟨w2.heap.size,0,none⟩) n n] 35);have hb3:=((Below.refl w2.heap.size w2).alloc (Nat.le_refl _) (.cells (Array.replicate n (.string ⟨#[]⟩)) 9)).alloc (by simp) (.cells #[.slice (some ⟨w2.heap.size,0,none⟩) n n] 35);have hC3:=Kd.C_below hC2 hb3;have hbw3:=Below.trans hbw2 (hb3.mono hbw2.size);have hs3:((w2.alloc (.cells (Array.replicate n (.string ⟨#[]⟩)) 9)).alloc (.cells #[.slice (some ⟨w2.heap.size,0,none⟩) n n] 35)).heap.size=w2.heap.size+2:=by simp
 generalize (w2.alloc (.cells (Array.replicate n (.string ⟨#[]⟩)) 9)).alloc (.cells #[.slice (some ⟨w2.heap.size,0,none⟩) n n] 35)=w3 at*
 obtain⟨g,hg⟩:∃g,w2.heap.size=g:=⟨_,rfl⟩
 rw[hg] at hG hX hsz2 hs3 ⊢;clear hx2 hC2 hbw2 hb3 x1 hmk hg w2;have x0:=hx3.cell (j:=0) rfl;have x1:=hx3.cell (j:=1) rfl;have HS3:=Lib.hid hs3;clear hs3
 go_wp2_with (first |(go_at_call 62;(with_reducible refine (lbBack_walk st A n c _).mono ?_);rintro e w4 ⟨rfl,rfl⟩) |fail)
 have hbB:Blk (w3.alloc (.cells #[.int .i64 st,.slice A n c] 26)) w3.heap.size 26 [.int .i64 st,.slice A n c]:=Blk.newA _ _ _ _ rfl;have hC0:=Kd.C_below hC3 ((Below.refl w3.heap.size w3).alloc (Nat.le_refl _) (.cells #[.int .i64 st,.slice A n c] 26));have hG0:=hG.alloc (.cells #[.int .i64 st,.slice A n c] 26);have hX0:=hX.alloc (.cells #[.int .i64 st,.slice A n c] 26);have hbl0:=hbw3.alloc hbw3.size (.cells #[.int .i64 st,.slice A n c] 26);have hs0:(w3.alloc (.cells #[.int .i64 st,.slice A n c] 26)).heap.size=w3.heap.size+1:=by simp
 rw[HS3.out] at hbB hs0 ⊢;generalize w3.alloc (.cells #[.int .i64 st,.slice A n c] 26)=W0 at*
 have HG:=Lib.hid (backR_gives w.heap.size (g+2) st A n c rs HL.out (by omega) W0 hbB hC0 HA.out hbl0.size).all;have HS:=Lib.hid (And.intro hsz2 hs0);have HEV:Hid (∀r ∈ rs,recB r=true):=Lib.hid (valid_all HV.out).1;clear x0 x1 hbw3 hC3 hx3 HS3 hG hX hC0 hbB w3 hsz2 hs0;refine wp_rangeFunc_act (T:=43) (gf:=83) (lb:= #[.pointer (some ⟨g+2,0,none⟩)]) rfl (enters_of Tryd.func83 (by kernel_rfl) rfl) ?hZ HG.out (Below.refl _ _) (fun _=>rfl) (fun p=>rcells p.2)
  (fun tm p Bx=>{ tmps:=(((tm.setIfInBounds 16 (.int .i64 (p.1:Int))).setIfInBounds 17 (rval p.2)).setIfInBounds 5 (.int .i64 (p.1:Int))).setIfInBounds 6 (.pointer (some ⟨Bx,0,none⟩)),defers:=[] }) ?assign
  (fun pre W=>Blk W g 9 (fillC n pre)∧Blk W (g+1) 35 [.slice (some ⟨g,0,none⟩) n n]∧Below w.heap.size w W)
  ?hI ⟨hG0,hX0,hbl0⟩ ?body ?done
 case hZ=>
  have:=HS.out
  rintro k (rfl |hk)<;>omega
 case assign=>
  intro l p W K hK
  gi_wp2
  simpa using hK
 case hI=>
  have:=HS.out;exact OwnFrom.and (own_blk (fun _=>_) (by omega)) (OwnFrom.and (own_blk (fun _=>_) (by omega)) (ownFrom_below (Nat.le_refl _) (by omega)))
 case body=>
  clear hG0 hX0 hbl0
  rintro l pre p Bx W ⟨hg,hx,hbl⟩ hr hBx hpre
  have hpl:p.1<n:=by rw[<-HL.out];exact recsB_mem (hpre.subset (by simp))
  have HBL:=Lib.hid hbl;have HGB:=Lib.hid hg;have HXB:=Lib.hid hx;have HPL:=Lib.hid hpl;have HBX:=Lib.hid (Nat.lt_of_le_of_lt hBx hr.lt);simp only[List.setIfInBounds_toArray,List.set_cons_succ,List.set_cons_zero];have hX:=hx.cell (j:=0) rfl;have c0:=hr.cell (j:=0) rfl;have c1:=hr.cell (j:=1) rfl;have c2:=hr.cell (j:=2) rfl;have c3:=hr.cell (j:=3) rfl;have c4:=hr.cell (j:=4) rfl;clear hg hx hbl hr hpre;refine wpIn_block ?_;have p0:(0:Int)<=(p.1:Int):=by omega
  have p1:(p.1:Int)<(n:Int):=by omega
  refine startR_ (n:=9) (S:=fun w'=>w'.cell? ⟨g+1,0,none⟩=some (.slice (some ⟨g,0,none⟩) n n)∧w'.cell? ⟨Bx,0,none⟩=some (.int .i64 p.2.f0)∧w'.cell? ⟨Bx,1,none⟩=some (.int .i64 p.2.f1)∧w'.cell? ⟨Bx,2,none⟩=some (.int .i64 p.2.f2)∧w'.cell? ⟨Bx,3,none⟩=some (.int .i64 p.2.f3)∧w'.cell? ⟨Bx,4,none⟩=some (.string p.2.f4)) (ds:=[8]) #[false,false,false,false,false,false,false,false,false] (by kernel_rfl) (fun⟨_,_,h⟩=>h) rfl rfl rfl ⟨hX,c0,c1,c2,c3,c4⟩ (fun hHeld=>?_);refine take_ (i:=0) (N:=(some 19)) (v:=?_) (a':=?_) #[true,false,false,false,false,false,false,false,false] rfl rfl (by kernel_rfl) (fun _ _ _ h=>h) (Or.inl ⟨by rfl,?_⟩) hHeld ?_ ?_
  rotate_left
  ·rintro w' ⟨s0,s1,s2,s3,s4,s5⟩
   go_simp
   with_reducible rfl
  rotate_left
  ·simp only[Act.put,List.setIfInBounds_toArray,List.set_cons_zero,List.set_cons_succ,i64_w,i32_w];rfl
  refine pure_ (i:=1) (N:=(some 20)) (v:=?_) (a':=?_) #[true,true,false,false,false,false,false,false,false] rfl rfl (by kernel_rfl) (fun _ _ _ h=>h) (Or.inl ⟨by rfl,?_⟩) ?_ ?_
  rotate_left
  ·intro w';go_simp
   with_reducible rfl
  rotate_left
  ·simp only[Act.put,List.setIfInBounds_toArray,List.set_cons_zero,List.set_cons_succ,i64_w,i32_w];rfl
  refine take_ (i:=2) (N:=(some 21)) (v:=?_) (a':=?_) #[true,true,true,false,false,false,false,false,false] rfl rfl (by kernel_rfl) (fun _ _ _ h=>h) (Or.inl ⟨by rfl,?_⟩) hHeld ?_ ?_
  rotate_left
  ·rintro w' ⟨s0,s1,s2,s3,s4,s5⟩
   go_simp
   with_reducible rfl
  rotate_left
  ·simp only[Act.put,List.setIfInBounds_toArray,List.set_cons_zero,List.set_cons_succ,i64_w,i32_w];rfl
  refine one_ (i:=3) (N:=(some 22)) #[true,true,true,true,false,false,false,false,false] rfl rfl (by kernel_rfl) (by decide) (fun K hK=>?_);refine goes_ Tryd.func20 (by kernel_rfl) rfl #[rval p.2] (by rfl) rfl rfl (by (try simp only[List.map_toArray,List.map_cons,List.map_nil]);first |done |rfl) ?_;refine (encode_walk p.2 W.drew).mono ?_
  rintro e w5 ⟨rfl,hb5⟩
  refine⟨_,rfl,?_⟩;refine hK.out _ _ ⟨keepB hb5 hHeld.1,keepB hb5 hHeld.2.1,keepB hb5 hHeld.2.2.1,keepB hb5 hHeld.2.2.2.1,keepB hb5 hHeld.2.2.2.2.1,keepB hb5 hHeld.2.2.2.2.2⟩ (fun hHeld=>?_);clear hK K;refine norm_ (a':=?_) ?_ ?_
  rotate_left
  ·show Act.put _ (some 22) _=_
   simp only[Act.put,List.setIfInBounds_toArray,List.set_cons_zero,List.set_cons_succ,i64_w,i32_w];rfl
  refine pure_ (i:=4) (N:=(some 18)) (v:=?_) (a':=?_) #[true,true,true,true,true,false,false,false,false] rfl rfl (by kernel_rfl) (fun _ _ _ h=>h) (Or.inl ⟨by rfl,?_⟩) ?_ ?_
  rotate_left
  ·intro w';go_simp
   with_reducible rfl
  rotate_left
  ·simp only[Act.put,List.setIfInBounds_toArray,List.set_cons_zero,List.set_cons_succ,i64_w,i32_w];rfl
  refine pure_ (i:=5) (N:=(some 23)) (v:=?_) (a':=?_) #[true,true,true,true,true,true,false,false,false] rfl rfl (by kernel_rfl) (fun _ _ _ h=>h) (Or.inl ⟨by rfl,?_⟩) ?_ ?_
  rotate_left
  ·intro w';go_simp
   with_reducible rfl
  rotate_left
  ·simp only[Act.put,List.setIfInBounds_toArray,List.set_cons_zero,List.set_cons_succ,i64_w,i32_w];rfl
  refine pure_ (i:=6) (N:=(some 24)) (v:=?_) (a':=?_) #[true,true,true,true,true,true,true,false,false] rfl rfl (by kernel_rfl) (fun _ _ _ h=>h) (Or.inl ⟨by rfl,?_⟩) ?_ ?_
  rotate_left
  ·intro w';go_simp
   with_reducible rfl
  rotate_left
  ·simp only[Act.put,List.setIfInBounds_toArray,List.set_cons_zero,List.set_cons_succ,i64_w,i32_w];rfl
  refine pure_ (i:=7) (N:=(some 25)) (v:=?_) (a':=?_) #[true,true,true,true,true,true,true,true,false] rfl rfl (by kernel_rfl) (fun _ _ _ h=>h) (Or.inl ⟨by rfl,?_⟩) ?_ ?_
  rotate_left
  ·intro w';go_simp
   with_reducible rfl
  rotate_left
  ·simp only[Act.put,List.setIfInBounds_toArray,List.set_cons_zero,List.set_cons_succ,i64_w,i32_w];rfl
  have hG5:Blk w5 g 9 (fillC n pre):=HGB.out.drew.belowS hb5;have hX5:Blk w5 (g+1) 35 [.slice (some ⟨g,0,none⟩) n n]:=HXB.out.drew.belowS hb5;have hbl5:Below w.heap.size w w5:=Below.trans (below_drew1 HBL.out) (hb5.mono HBL.out.size);obtain⟨v0,hv0⟩:∃v,(fillC n pre)[p.1]?=some v:=⟨_,List.getElem?_eq_getElem (by rw[fillC_len];exact HPL.out)⟩
  have y0:=hG5.cell hv0;have yf:=hG5.free p.1;refine last_ (i:=8) (N:=none) #[true,true,true,true,true,true,true,true,true] rfl rfl (by kernel_rfl) (by decide) (fun K hK=>?_);refine skip_ (w1:=?_) (by rfl) rfl ?_ ?_
  rotate_left
  ·go_simp
   rfl
  refine hK.out _ _ ?_;clear hK K;refine done_ (by kernel_rfl) ?_;have hgr:W.grownBy (w5.setCell ⟨g,p.1,none⟩ (.string (encF p.2).1)) (some g):=grown_trans (below_grown (B:=0) (show Below W.heap.size W w5 from Below.trans (below_drew1 (Below.refl _ W)) hb5) (some g)) (grownBy_setCell1 w5 g p.1 _);refine⟨keeps_grown hgr (by have:=HS.out;omega),?_,?_,hX5.set_other ⟨g,p.1,none⟩ (by show g+1≠g;omega) _,hbl5.setCell (p:=⟨g,p.1,none⟩) (by have:=HS.out;show w.heap.size<=g;omega) _⟩
  ·rintro k (rfl |hk)
   ·exact hgr.block _ (by have:=HBX.out;have:=HS.out;omega) (by intro e;injection e with e;omega)
   ·exact hgr.block _ (by have:=HBX.out;have:=HS.out;omega) (by intro e;injection e with e;have:=HS.out;omega)
  ·rw[fillC_snoc];exact hG5.set p.1 _
 case done=>
  rintro D W hD ⟨hg,hx,hbl⟩ hK
  have hX:=hx.cell (j:=0) rfl
  go_wp2
  have hG4:Blk (W.putObj D (.deferred none)) g 9 (fillC n (recsB rs)):=hg.move (World.putObj_heap_other (by have:=HS.out;omega));have hb4:=hbl.trans (belowK_b (w:=w) (Nat.le_refl _) _ D _ (.deferred none) (by have:=HS.out;omega) hK rfl rfl);have hrow:fillC n (recsB rs)=rs.map (fun r=>.string (txtR r)):=by
   have:=fillC_all rs;rw[HL.out] at this;rw[this];refine List.map_congr_left fun r hr=>?_
   unfold encF;rw[HEV.out r hr];rfl
  rw[hrow] at hG4;refine⟨by simp,.inl ⟨_,_,rfl,run_takeDeferred hK,?_⟩⟩;exact⟨_,results_tmp2 rfl _ _ _,g,rfl,by have:=HS.out;omega,hG4,hb4⟩
end Go.Proofs.YtfdlmpicmkpabaaDoor.Ext
end
