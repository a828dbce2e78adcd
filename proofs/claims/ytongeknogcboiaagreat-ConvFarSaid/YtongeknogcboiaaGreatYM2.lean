/- Lemmas for laws of chapter 7: what the functions that they reach compute. No condition of its own. -/
import Derived.Test.YtongeknogcboiaaGreatProg
import Derived.Below
import Derived.Deep.Draws
import Derived.Deep.AppendLies
import Derived.Maps.AppendAt
import Derived.OwnWalk
import Derived.Laws.BytesArg
import Derived.Laws.MakeOwn
import Derived.Laws.OwnMore
import Derived.Deep.OwnRows
import Derived.Tactics
import Derived.Lib.ConvBytes
import Derived.Laws.Slices
import Derived.WalkKit
import Derived.KernelRfl
import Derived.RowKit3
import Derived.Deep.LoopGhost
import Derived.Deep.QuietTactic
import Derived.BigQuiet
import Derived.WideLaws
import Derived.Deep.DeepCutAuto
import Derived.Deep.CutBlock
import Derived.Deep.RegionHeld3
import Derived.Laws.Rows
import Derived.Lib.AppendStr
import Derived.ArgAppend
import Derived.Laws.IdiomCopy
import Derived.OrdersHeld
import Derived.Laws.BitsLemmas
import Derived.RowKit
import Derived.Test.YtongeknogcboiaaGreatYM1
namespace Go.Proofs.YtongeknogcboiaaGreat.P
open Go.RowKit Go.Proofs.YtongeknogcboiaaGreatW.fK Go.Proofs.YtongeknogcboiaaGreatW.gN Go.Proofs.YtongeknogcboiaaGreatW.iC
attribute [local go_sem] rX rY vO vP tV tX wU wV   -- for this text's walks alone
set_option linter.unusedVariables false
set_option linter.unusedSimpArgs false
structure S41 where
  f0:Int
  f1:Int
def z41:S41:=⟨(0:Int),(0:Int)⟩
def wW (xs:List S41) (i:Int):S41:=xs.getD i.toNat z41
def abe (xs:List (List S41)) (i:Int):(List S41):=xs.getD i.toNat ([]:List S41)
structure S43 where
  f0:Int
  f1:(List S41)
def z43:S43:=⟨(0:Int),([]:List S41)⟩
def wX (xs:List S43) (i:Int):S43:=xs.getD i.toNat z43
structure S25 where
  f0:Int
  f1:Int
  f2:(List (List S41))
  f3:(List S43)
def z25:S25:=⟨(0:Int),(0:Int),([]:List (List S41)),([]:List S43)⟩
end Go.Proofs.YtongeknogcboiaaGreat.P
namespace Go.Proofs.YtongeknogcboiaaGreat.P
set_option linter.unusedVariables false
set_option linter.unusedSimpArgs false
open Go.RowKit
abbrev Sp:=S41
structure Bd where
  at_:Int
  a:Bool
  b:Bool
def oI:List Sp→Bool→Int
  | [],_=>0
  | s :: _,true=>wrap64 (s.f1+1)
  | s :: _,false=>s.f0
def jI:List Sp→Bool→Int→List Sp × Bool
  | [],i,_=>([],i)
  | s :: r,true,t=>if wrap64 (s.f1+1)=t then (r,false) else (s :: r,true)
  | s :: r,false,t=>if s.f0=t then (s :: r,true) else (s :: r,false)
def atL (a:List Sp) (ia:Bool) (b:List Sp) (ib:Bool):Int :=
  if a=[] then oI b ib else if b=[] then oI a ia else min (oI a ia) (oI b ib)
def msr (l:List Sp) (i:Bool):Nat:=2*l.length - (if i then 1 else 0)
theorem wY (l:List Sp) (i:Bool) (t:Int):msr (jI l i t).1 (jI l i t).2≤msr l i:=by
  match l,i with
  | [],i=>simp [jI,msr]
  | s :: r,true=>simp only [jI];split <;> simp [msr];omega
  | s :: r,false=>simp only [jI];split <;> simp [msr]
theorem wZ (l:List Sp) (i:Bool) (hl:l≠[]):msr (jI l i (oI l i)).1 (jI l i (oI l i)).2<msr l i:=by
  match l,i with
  | [],i=>exact absurd rfl hl
  | s :: r,true=>simp [jI,oI,msr];omega
  | s :: r,false=>simp [jI,oI,msr];omega
theorem qb (a:List Sp) (ia:Bool) (b:List Sp) (ib:Bool) (h:¬ (a=[]∧b=[])) :
    msr (jI a ia (atL a ia b ib)).1 (jI a ia (atL a ia b ib)).2+msr (jI b ib (atL a ia b ib)).1 (jI b ib (atL a ia b ib)).2<msr a ia+msr b ib:=by
  have ha:=wY a ia (atL a ia b ib);have hb:=wY b ib (atL a ia b ib);have key:(a≠[]∧atL a ia b ib=oI a ia)∨(b≠[]∧atL a ia b ib=oI b ib):=by
    unfold atL;by_cases h1:a=[]
    · have h2:b≠[]:=fun e=>h ⟨h1,e⟩
      exact .inr ⟨h2,by rw [if_pos h1]⟩
    · by_cases h2:b=[]
      · exact .inl ⟨h1,by rw [if_neg h1,if_pos h2]⟩
      · rw [if_neg h1,if_neg h2]
        rcases Int.le_total (oI a ia) (oI b ib) with h3 | h3
        · exact .inl ⟨h1,by omega⟩
        · exact .inr ⟨h2,by omega⟩
  rcases key with ⟨hn,e⟩ | ⟨hn,e⟩
  · have:=wZ a ia hn
    rw [e] at ha hb ⊢;omega
  · have:=wZ b ib hn
    rw [e] at ha hb ⊢;omega
def pG (a:List Sp) (ia:Bool) (b:List Sp) (ib:Bool):List Bd :=
  if h:a=[]∧b=[] then [] else
    let t:=atL a ia b ib
    let p:=jI a ia t
    let q:=jI b ib t
    ⟨t,p.2,q.2⟩ :: pG p.1 p.2 q.1 q.2
termination_by msr a ia+msr b ib
decreasing_by exact qb a ia b ib h
theorem om (ia ib:Bool):pG [] ia [] ib=[]:=by rw [pG];simp
theorem ru (a:List Sp) (ia:Bool) (b:List Sp) (ib:Bool) (h:¬ (a=[]∧b=[])) :
    pG a ia b ib=⟨atL a ia b ib,(jI a ia (atL a ia b ib)).2,(jI b ib (atL a ia b ib)).2⟩ :: pG (jI a ia (atL a ia b ib)).1 (jI a ia (atL a ia b ib)).2 (jI b ib (atL a ia b ib)).1 (jI b ib (atL a ia b ib)).2:=by
  rw [pG,dif_neg h]
structure Kst where
  inn:Bool
  from_:Int
  out:List Sp
def lC (yes:Bool→Bool→Bool) (s:Kst) (x:Bd):Kst :=
  if yes x.a x.b && !s.inn then ⟨yes x.a x.b,x.at_,s.out⟩
  else if !(yes x.a x.b)&&s.inn then ⟨yes x.a x.b,s.from_,s.out++[⟨s.from_,wrap64 (x.at_ - 1)⟩]⟩
  else ⟨yes x.a x.b,s.from_,s.out⟩
def acM (yes:Bool→Bool→Bool) (xs:List Bd):Kst:=xs.foldl (lC yes) ⟨false,0,[]⟩
theorem zC (yes:Bool→Bool→Bool) (s:Kst) (x:Bd):(lC yes s x).out.length≤s.out.length+1:=by
  unfold lC;split <;> (try split) <;> simp
def nQ (yes:Bool→Bool→Bool) (a b:List Sp):List Sp:=(acM yes (pG a false b false)).out
end Go.Proofs.YtongeknogcboiaaGreat.P
