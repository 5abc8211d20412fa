import Derived.Test.YtfdlmpicmkpabaaDoorMLogbookDecodesas
/-
  Texts of this claim, one behind the other: what they prove stands above each.
-/
set_option linter.unusedVariables false
set_option linter.unusedSimpArgs false
section
namespace Go.Proofs.YtfdlmpicmkpabaaDoor.Ext
set_option maxRecDepth 100000
open Go.RowKit Go.Shelf Go.Proofs.YtfdlmpicmkpabaaDoorW.PrintWords Go.Proofs.YtfdlmpicmkpabaaDoorW.PrintLast Go.Proofs.YtfdlmpicmkpabaaDoorW.PrintMore
attribute [local go_sem] Oper.semAt_some
abbrev Five:=S75
def inFive(x:Five):Prop:=In x.f0∧In x.f1∧In x.f2∧In x.f3∧In x.f4
instance (x:Five):Decidable (inFive x):=by unfold inFive;exact inferInstance
def madeL:Int->List Five->List Rec
 |_,[]=>[]
 |a,x::xs=>entF (a+pkN x.f0 30) x.f1 x.f2 x.f3 x.f4::madeL (a+pkN x.f0 30) xs
def dayL:Int->List Five->Int
 |a,[]=>a
 |a,x::xs=>dayL (a+pkN x.f0 30) xs
def madeF(xs:List Five):List Rec:=madeL 0 (xs.take 12)
def OwnL(B:Nat)(w:World)(g:Nat)(st:Int)(A:Option Addr)(n c:Nat)(rs:List Rec):Prop:=
 rs.length=n∧n<=c∧Blk w g 26 [.int .i64 st,.slice A n c]∧Kd.R kRec 43 w B (fun _=>True) (.slice A n c) rs
theorem OwnL.below{B:Nat}{w w':World}{g:Nat}{st:Int}{A:Option Addr}{n c:Nat}{rs:List Rec}(h:OwnL B w g st A n c rs)(hb:Below w.heap.size w w'):OwnL B w' g st A n c rs:=⟨h.1,h.2.1,h.2.2.1.belowS hb,Kd.R_below h.2.2.2 hb⟩
def aircheckref35_Made.f(a0:Int)(l1:List Five):Option (Int × List Rec):=if In a0∧∀x ∈ l1,inFive x then some (pkN a0 100,madeF l1) else none
def aircheckref35_Entry.f(a0 a1_0 a1_1 a1_2 a1_3:Int):Option (Int × Int × Int × Int × ByteArray):=if In a0∧In a1_0∧In a1_1∧In a1_2∧In a1_3 then some ((entF a0 a1_0 a1_1 a1_2 a1_3).f0,(entF a0 a1_0 a1_1 a1_2 a1_3).f1,(entF a0 a1_0 a1_1 a1_2 a1_3).f2,(entF a0 a1_0 a1_1 a1_2 a1_3).f3,(entF a0 a1_0 a1_1 a1_2 a1_3).f4) else none
end Go.Proofs.YtfdlmpicmkpabaaDoor.Ext
end
