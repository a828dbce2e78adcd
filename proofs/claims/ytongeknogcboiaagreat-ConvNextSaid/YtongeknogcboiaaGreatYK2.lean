/- Lemmas for laws of chapter 7: what the functions that they reach compute. No condition of its own. -/
import Derived.Test.YtongeknogcboiaaGreatProg
import Derived.Below
import Derived.Deep.Draws
import Derived.Deep.AppendLies
import Derived.Maps.AppendAt
import Derived.OwnWalk
import Derived.Laws.BytesArg
import Derived.Laws.MakeOwn
import Derived.Laws.OwnMore
import Derived.Deep.OwnRows
import Derived.Tactics
import Derived.Lib.ConvBytes
import Derived.Laws.Slices
import Derived.WalkKit
import Derived.KernelRfl
import Derived.RowKit3
import Derived.Deep.LoopGhost
import Derived.Deep.QuietTactic
import Derived.BigQuiet
import Derived.WideLaws
import Derived.Deep.DeepCutAuto
import Derived.Deep.CutBlock
import Derived.Deep.RegionHeld3
import Derived.Laws.Rows
import Derived.Lib.AppendStr
import Derived.ArgAppend
import Derived.Laws.IdiomCopy
import Derived.OrdersHeld
import Derived.Laws.BitsLemmas
import Derived.RowKit
import Derived.Test.YtongeknogcboiaaGreatYK1
namespace Go.Proofs.YtongeknogcboiaaGreat.P
open Go.RowKit Go.Proofs.YtongeknogcboiaaGreatW.gy Go.Proofs.YtongeknogcboiaaGreatW.iE Go.Proofs.YtongeknogcboiaaGreatW.jh
attribute [local go_sem] sN sO vZ wm uH uI xq xu   -- for this text's walks alone
set_option linter.unusedVariables false
set_option linter.unusedSimpArgs false
structure S41 where
  f0:Int
  f1:Int
def z41:S41:=⟨(0:Int),(0:Int)⟩
def k41:Kd S41:=Kd.iso (Kd.pair (Kd.int .i64) (Kd.int .i64)) (fun x:S41=>(x.f0,x.f1))
theorem xw {w:World} {x:S41} {cs:List Value} (h:k41.K w x cs):cs=[.int .i64 x.f0,.int .i64 x.f1]:=by
  obtain ⟨_,_,rfl,rfl,rfl⟩:=h;exact rfl
theorem ad4 (w:World) (x:S41)  : k41.K w x [.int .i64 x.f0,.int .i64 x.f1]:=⟨[.int .i64 x.f0],[.int .i64 x.f1],rfl,rfl,rfl⟩
def xA (xs:List S41) (i:Int):S41:=xs.getD i.toNat z41
def abr (xs:List (List S41)) (i:Int):(List S41):=xs.getD i.toNat ([]:List S41)
structure S43 where
  f0:Int
  f1:(List S41)
def z43:S43:=⟨(0:Int),([]:List S41)⟩
def k43:Kd S43:=Kd.iso (Kd.pair (Kd.int .i64) (Kd.slice 41 k41)) (fun x:S43=>(x.f0,x.f1))
theorem abt {w:World} {x:S43} {cs:List Value} (h:k43.K w x cs):∃ A1 c1,cs=[.int .i64 x.f0,.slice A1 x.f1.length c1]∧x.f1.length≤c1∧k41.C w A1 x.f1.length x.f1:=by
  obtain ⟨_,_,rfl,rfl,⟨A1,c1,rfl,l1,g1⟩⟩:=h;exact ⟨A1,c1,rfl,l1,g1⟩
theorem ad5 (w:World) (x:S43) {A1:Option Addr} {c1:Nat} (l1:x.f1.length≤c1) (g1:k41.C w A1 x.f1.length x.f1):k43.K w x [.int .i64 x.f0,.slice A1 x.f1.length c1]:=⟨[.int .i64 x.f0],[.slice A1 x.f1.length c1],rfl,rfl,⟨A1,c1,rfl,l1,g1⟩⟩
def xB (xs:List S43) (i:Int):S43:=xs.getD i.toNat z43
structure S25 where
  f0:Int
  f1:Int
  f2:(List (List S41))
  f3:(List S43)
def z25:S25:=⟨(0:Int),(0:Int),([]:List (List S41)),([]:List S43)⟩
end Go.Proofs.YtongeknogcboiaaGreat.P
namespace Go.Proofs.YtongeknogcboiaaGreat.P
set_option linter.unusedVariables false
set_option linter.unusedSimpArgs false
open Go.RowKit
abbrev Sp:=S41
structure Bd where
  at_:Int
  a:Bool
  b:Bool
def aeW:List Sp→Bool→Int
  | [],_=>0
  | s :: _,true=>wrap64 (s.f1+1)
  | s :: _,false=>s.f0
def zV:List Sp→Bool→Int→List Sp × Bool
  | [],i,_=>([],i)
  | s :: r,true,t=>if wrap64 (s.f1+1)=t then (r,false) else (s :: r,true)
  | s :: r,false,t=>if s.f0=t then (s :: r,true) else (s :: r,false)
structure Kst where
  inn:Bool
  from_:Int
  out:List Sp
end Go.Proofs.YtongeknogcboiaaGreat.P
