/- Lemmas for laws of chapter 7: what the functions that they reach compute. No condition of its own. -/
import Derived.Test.YtongeknogcboiaaGreatProg
import Derived.Below
import Derived.Deep.Draws
import Derived.Deep.AppendLies
import Derived.Maps.AppendAt
import Derived.OwnWalk
import Derived.Laws.BytesArg
import Derived.Laws.MakeOwn
import Derived.Laws.OwnMore
import Derived.Deep.OwnRows
import Derived.Tactics
import Derived.Lib.ConvBytes
import Derived.Laws.Slices
import Derived.WalkKit
import Derived.KernelRfl
import Derived.RowKit3
import Derived.Deep.LoopGhost
import Derived.Deep.QuietTactic
import Derived.BigQuiet
import Derived.WideLaws
import Derived.Deep.DeepCutAuto
import Derived.Deep.CutBlock
import Derived.Deep.RegionHeld3
import Derived.Laws.Rows
import Derived.Lib.AppendStr
import Derived.ArgAppend
import Derived.Laws.IdiomCopy
import Derived.OrdersHeld
import Derived.Laws.BitsLemmas
import Derived.RowKit
import Derived.Test.YtongeknogcboiaaGreatYW1
namespace Go.Proofs.YtongeknogcboiaaGreat.P
open Go.RowKit Go.Proofs.YtongeknogcboiaaGreatW.fP Go.Proofs.YtongeknogcboiaaGreatW.gK Go.Proofs.YtongeknogcboiaaGreatW.iD
attribute [local go_sem] sK sM wm wo uH uI xD xE   -- for this text's walks alone
set_option linter.unusedVariables false
set_option linter.unusedSimpArgs false
structure S41 where
  f0:Int
  f1:Int
def z41:S41:=⟨(0:Int),(0:Int)⟩
def k41:Kd S41:=Kd.iso (Kd.pair (Kd.int .i64) (Kd.int .i64)) (fun x:S41=>(x.f0,x.f1))
theorem xG {w:World} {x:S41} {cs:List Value} (h:k41.K w x cs):cs=[.int .i64 x.f0,.int .i64 x.f1]:=by
  obtain ⟨_,_,rfl,rfl,rfl⟩:=h;exact rfl
theorem aeG (w:World) (x:S41)  : k41.K w x [.int .i64 x.f0,.int .i64 x.f1]:=⟨[.int .i64 x.f0],[.int .i64 x.f1],rfl,rfl,rfl⟩
def xH (xs:List S41) (i:Int):S41:=xs.getD i.toNat z41
def abO (xs:List (List S41)) (i:Int):(List S41):=xs.getD i.toNat ([]:List S41)
structure S43 where
  f0:Int
  f1:(List S41)
def z43:S43:=⟨(0:Int),([]:List S41)⟩
def k43:Kd S43:=Kd.iso (Kd.pair (Kd.int .i64) (Kd.slice 41 k41)) (fun x:S43=>(x.f0,x.f1))
theorem abP {w:World} {x:S43} {cs:List Value} (h:k43.K w x cs):∃ A1 c1,cs=[.int .i64 x.f0,.slice A1 x.f1.length c1]∧x.f1.length≤c1∧k41.C w A1 x.f1.length x.f1:=by
  obtain ⟨_,_,rfl,rfl,⟨A1,c1,rfl,l1,g1⟩⟩:=h;exact ⟨A1,c1,rfl,l1,g1⟩
theorem aeH (w:World) (x:S43) {A1:Option Addr} {c1:Nat} (l1:x.f1.length≤c1) (g1:k41.C w A1 x.f1.length x.f1):k43.K w x [.int .i64 x.f0,.slice A1 x.f1.length c1]:=⟨[.int .i64 x.f0],[.slice A1 x.f1.length c1],rfl,rfl,⟨A1,c1,rfl,l1,g1⟩⟩
def xI (xs:List S43) (i:Int):S43:=xs.getD i.toNat z43
structure S25 where
  f0:Int
  f1:Int
  f2:(List (List S41))
  f3:(List S43)
def z25:S25:=⟨(0:Int),(0:Int),([]:List (List S41)),([]:List S43)⟩
end Go.Proofs.YtongeknogcboiaaGreat.P
namespace Go.Proofs.YtongeknogcboiaaGreat.P
set_option linter.unusedVariables false
set_option linter.unusedSimpArgs false
open Go.RowKit
abbrev Sp:=S41
structure Bd where
  at_:Int
  a:Bool
  b:Bool
def oO:List Sp→Bool→Int
  | [],_=>0
  | s :: _,true=>wrap64 (s.f1+1)
  | s :: _,false=>s.f0
def jJ:List Sp→Bool→Int→List Sp × Bool
  | [],i,_=>([],i)
  | s :: r,true,t=>if wrap64 (s.f1+1)=t then (r,false) else (s :: r,true)
  | s :: r,false,t=>if s.f0=t then (s :: r,true) else (s :: r,false)
def atL (a:List Sp) (ia:Bool) (b:List Sp) (ib:Bool):Int :=
  if a=[] then oO b ib else if b=[] then oO a ia else min (oO a ia) (oO b ib)
def msr (l:List Sp) (i:Bool):Nat:=2*l.length - (if i then 1 else 0)
theorem xJ (l:List Sp) (i:Bool) (t:Int):msr (jJ l i t).1 (jJ l i t).2≤msr l i:=by
  match l,i with
  | [],i=>simp [jJ,msr]
  | s :: r,true=>simp only [jJ];split <;> simp [msr];omega
  | s :: r,false=>simp only [jJ];split <;> simp [msr]
theorem xK (l:List Sp) (i:Bool) (hl:l≠[]):msr (jJ l i (oO l i)).1 (jJ l i (oO l i)).2<msr l i:=by
  match l,i with
  | [],i=>exact absurd rfl hl
  | s :: r,true=>simp [jJ,oO,msr];omega
  | s :: r,false=>simp [jJ,oO,msr];omega
theorem qp (a:List Sp) (ia:Bool) (b:List Sp) (ib:Bool) (h:¬ (a=[]∧b=[])) :
    msr (jJ a ia (atL a ia b ib)).1 (jJ a ia (atL a ia b ib)).2+msr (jJ b ib (atL a ia b ib)).1 (jJ b ib (atL a ia b ib)).2<msr a ia+msr b ib:=by
  have ha:=xJ a ia (atL a ia b ib);have hb:=xJ b ib (atL a ia b ib);have key:(a≠[]∧atL a ia b ib=oO a ia)∨(b≠[]∧atL a ia b ib=oO b ib):=by
    unfold atL;by_cases h1:a=[]
    · have h2:b≠[]:=fun e=>h ⟨h1,e⟩
      exact .inr ⟨h2,by rw [if_pos h1]⟩
    · by_cases h2:b=[]
      · exact .inl ⟨h1,by rw [if_neg h1,if_pos h2]⟩
      · rw [if_neg h1,if_neg h2]
        rcases Int.le_total (oO a ia) (oO b ib) with h3 | h3
        · exact .inl ⟨h1,by omega⟩
        · exact .inr ⟨h2,by omega⟩
  rcases key with ⟨hn,e⟩ | ⟨hn,e⟩
  · have:=xK a ia hn
    rw [e] at ha hb ⊢;omega
  · have:=xK b ib hn
    rw [e] at ha hb ⊢;omega
def pU (a:List Sp) (ia:Bool) (b:List Sp) (ib:Bool):List Bd :=
  if h:a=[]∧b=[] then [] else
    let t:=atL a ia b ib
    let p:=jJ a ia t
    let q:=jJ b ib t
    ⟨t,p.2,q.2⟩ :: pU p.1 p.2 q.1 q.2
termination_by msr a ia+msr b ib
decreasing_by exact qp a ia b ib h
theorem oD (ia ib:Bool):pU [] ia [] ib=[]:=by rw [pU];simp
theorem rH (a:List Sp) (ia:Bool) (b:List Sp) (ib:Bool) (h:¬ (a=[]∧b=[])) :
    pU a ia b ib=⟨atL a ia b ib,(jJ a ia (atL a ia b ib)).2,(jJ b ib (atL a ia b ib)).2⟩ :: pU (jJ a ia (atL a ia b ib)).1 (jJ a ia (atL a ia b ib)).2 (jJ b ib (atL a ia b ib)).1 (jJ b ib (atL a ia b ib)).2:=by
  rw [pU,dif_neg h]
structure Kst where
  inn:Bool
  from_:Int
  out:List Sp
def lM (yes:Bool→Bool→Bool) (s:Kst) (x:Bd):Kst :=
  if yes x.a x.b && !s.inn then ⟨yes x.a x.b,x.at_,s.out⟩
  else if !(yes x.a x.b)&&s.inn then ⟨yes x.a x.b,s.from_,s.out++[⟨s.from_,wrap64 (x.at_ - 1)⟩]⟩
  else ⟨yes x.a x.b,s.from_,s.out⟩
def adp (yes:Bool→Bool→Bool) (xs:List Bd):Kst:=xs.foldl (lM yes) ⟨false,0,[]⟩
theorem aaf (yes:Bool→Bool→Bool) (s:Kst) (x:Bd):(lM yes s x).out.length≤s.out.length+1:=by
  unfold lM;split <;> (try split) <;> simp
def nW (yes:Bool→Bool→Bool) (a b:List Sp):List Sp:=(adp yes (pU a false b false)).out
end Go.Proofs.YtongeknogcboiaaGreat.P
