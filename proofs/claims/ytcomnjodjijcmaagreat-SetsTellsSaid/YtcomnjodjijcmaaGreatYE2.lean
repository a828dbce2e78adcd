/- Lemmas for laws of chapter 7: what the functions that they reach compute. No condition of its own. -/
import Derived.Test.YtcomnjodjijcmaaGreatProg
import Derived.Below
import Derived.Deep.Draws
import Derived.Deep.AppendLies
import Derived.Maps.AppendAt
import Derived.OwnWalk
import Derived.Laws.BytesArg
import Derived.Laws.MakeOwn
import Derived.Laws.OwnMore
import Derived.Deep.OwnRows
import Derived.Tactics
import Derived.Lib.ConvBytes
import Derived.Laws.Slices
import Derived.WalkKit
import Derived.KernelRfl
import Derived.RowKit3
import Derived.Deep.LoopGhost
import Derived.Deep.QuietTactic
import Derived.BigQuiet
import Derived.WideLaws
import Derived.Deep.DeepCutAuto
import Derived.Deep.CutBlock
import Derived.Deep.RegionHeld3
import Derived.Laws.Rows
import Derived.Lib.AppendStr
import Derived.ArgAppend
import Derived.Laws.IdiomCopy
import Derived.OrdersHeld
import Derived.Laws.BitsLemmas
import Derived.RowKit
import Derived.Test.YtcomnjodjijcmaaGreatYE1
namespace Go.Proofs.YtcomnjodjijcmaaGreat.P
open Go.RowKit Go.Proofs.YtcomnjodjijcmaaGreatW.dz Go.Proofs.YtcomnjodjijcmaaGreatW.dX Go.Proofs.YtcomnjodjijcmaaGreatW.eD
attribute [local go_sem] rV rW vP vQ ug uh wX wY   -- for this text's walks alone
set_option linter.unusedVariables false
set_option linter.unusedSimpArgs false
structure S42 where
  f0:Int
  f1:Int
def z42:S42:=⟨(0:Int),(0:Int)⟩
def k42:Kd S42:=Kd.iso (Kd.pair (Kd.int .i64) (Kd.int .i64)) (fun x:S42=>(x.f0,x.f1))
theorem wZ {w:World} {x:S42} {cs:List Value} (h:k42.K w x cs):cs=[.int .i64 x.f0,.int .i64 x.f1]:=by
  obtain ⟨_,_,rfl,rfl,rfl⟩:=h;exact rfl
theorem ae7 (w:World) (x:S42)  : k42.K w x [.int .i64 x.f0,.int .i64 x.f1]:=⟨[.int .i64 x.f0],[.int .i64 x.f1],rfl,rfl,rfl⟩
def w9 (xs:List S42) (i:Int):S42:=xs.getD i.toNat z42
def ab5 (xs:List (List S42)) (i:Int):(List S42):=xs.getD i.toNat ([]:List S42)
structure S44 where
  f0:Int
  f1:(List S42)
def z44:S44:=⟨(0:Int),([]:List S42)⟩
def k44:Kd S44:=Kd.iso (Kd.pair (Kd.int .i64) (Kd.slice 42 k42)) (fun x:S44=>(x.f0,x.f1))
theorem ab6 {w:World} {x:S44} {cs:List Value} (h:k44.K w x cs):∃ A1 c1,cs=[.int .i64 x.f0,.slice A1 x.f1.length c1]∧x.f1.length≤c1∧k42.C w A1 x.f1.length x.f1:=by
  obtain ⟨_,_,rfl,rfl,⟨A1,c1,rfl,l1,g1⟩⟩:=h;exact ⟨A1,c1,rfl,l1,g1⟩
theorem ae8 (w:World) (x:S44) {A1:Option Addr} {c1:Nat} (l1:x.f1.length≤c1) (g1:k42.C w A1 x.f1.length x.f1):k44.K w x [.int .i64 x.f0,.slice A1 x.f1.length c1]:=⟨[.int .i64 x.f0],[.slice A1 x.f1.length c1],rfl,rfl,⟨A1,c1,rfl,l1,g1⟩⟩
def xg (xs:List S44) (i:Int):S44:=xs.getD i.toNat z44
structure S90 where
  f0:(List S42)
  f1:(List S42)
end Go.Proofs.YtcomnjodjijcmaaGreat.P
namespace Go.Proofs.YtcomnjodjijcmaaGreat.P
set_option linter.unusedVariables false
set_option linter.unusedSimpArgs false
open Go.RowKit
abbrev Sp:=S42
structure Bd where
  at_:Int
  a:Bool
  b:Bool
def adU:List Sp→Bool→Int
  | [],_=>0
  | s :: _,true=>wrap64 (s.f1+1)
  | s :: _,false=>s.f0
def aal:List Sp→Bool→Int→List Sp × Bool
  | [],i,_=>([],i)
  | s :: r,true,t=>if wrap64 (s.f1+1)=t then (r,false) else (s :: r,true)
  | s :: r,false,t=>if s.f0=t then (s :: r,true) else (s :: r,false)
structure Kst where
  inn:Bool
  from_:Int
  out:List Sp
end Go.Proofs.YtcomnjodjijcmaaGreat.P
