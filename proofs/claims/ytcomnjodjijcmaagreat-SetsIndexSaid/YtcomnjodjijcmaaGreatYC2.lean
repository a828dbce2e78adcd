/- Lemmas for laws of chapter 7: what the functions that they reach compute. No condition of its own. -/
import Derived.Test.YtcomnjodjijcmaaGreatProg
import Derived.Below
import Derived.Deep.Draws
import Derived.Deep.AppendLies
import Derived.Maps.AppendAt
import Derived.OwnWalk
import Derived.Laws.BytesArg
import Derived.Laws.MakeOwn
import Derived.Laws.OwnMore
import Derived.Deep.OwnRows
import Derived.Tactics
import Derived.Lib.ConvBytes
import Derived.Laws.Slices
import Derived.WalkKit
import Derived.KernelRfl
import Derived.RowKit3
import Derived.Deep.LoopGhost
import Derived.Deep.QuietTactic
import Derived.BigQuiet
import Derived.WideLaws
import Derived.Deep.DeepCutAuto
import Derived.Deep.CutBlock
import Derived.Deep.RegionHeld3
import Derived.Laws.Rows
import Derived.Lib.AppendStr
import Derived.ArgAppend
import Derived.Laws.IdiomCopy
import Derived.OrdersHeld
import Derived.Laws.BitsLemmas
import Derived.RowKit
import Derived.Test.YtcomnjodjijcmaaGreatYC1
namespace Go.Proofs.YtcomnjodjijcmaaGreat.P
open Go.RowKit Go.Proofs.YtcomnjodjijcmaaGreatW.dB Go.Proofs.YtcomnjodjijcmaaGreatW.d9 Go.Proofs.YtcomnjodjijcmaaGreatW.eO
attribute [local go_sem] tH tJ wU wV vC vD yt yu   -- for this text's walks alone
set_option linter.unusedVariables false
set_option linter.unusedSimpArgs false
structure S42 where
  f0:Int
  f1:Int
def z42:S42:=⟨(0:Int),(0:Int)⟩
def k42:Kd S42:=Kd.iso (Kd.pair (Kd.int .i64) (Kd.int .i64)) (fun x:S42=>(x.f0,x.f1))
theorem yw {w:World} {x:S42} {cs:List Value} (h:k42.K w x cs):cs=[.int .i64 x.f0,.int .i64 x.f1]:=by
  obtain ⟨_,_,rfl,rfl,rfl⟩:=h;exact rfl
theorem afR (w:World) (x:S42)  : k42.K w x [.int .i64 x.f0,.int .i64 x.f1]:=⟨[.int .i64 x.f0],[.int .i64 x.f1],rfl,rfl,rfl⟩
def yx (xs:List S42) (i:Int):S42:=xs.getD i.toNat z42
def acM (xs:List (List S42)) (i:Int):(List S42):=xs.getD i.toNat ([]:List S42)
structure S44 where
  f0:Int
  f1:(List S42)
def z44:S44:=⟨(0:Int),([]:List S42)⟩
def k44:Kd S44:=Kd.iso (Kd.pair (Kd.int .i64) (Kd.slice 42 k42)) (fun x:S44=>(x.f0,x.f1))
theorem acN {w:World} {x:S44} {cs:List Value} (h:k44.K w x cs):∃ A1 c1,cs=[.int .i64 x.f0,.slice A1 x.f1.length c1]∧x.f1.length≤c1∧k42.C w A1 x.f1.length x.f1:=by
  obtain ⟨_,_,rfl,rfl,⟨A1,c1,rfl,l1,g1⟩⟩:=h;exact ⟨A1,c1,rfl,l1,g1⟩
theorem afS (w:World) (x:S44) {A1:Option Addr} {c1:Nat} (l1:x.f1.length≤c1) (g1:k42.C w A1 x.f1.length x.f1):k44.K w x [.int .i64 x.f0,.slice A1 x.f1.length c1]:=⟨[.int .i64 x.f0],[.slice A1 x.f1.length c1],rfl,rfl,⟨A1,c1,rfl,l1,g1⟩⟩
def yA (xs:List S44) (i:Int):S44:=xs.getD i.toNat z44
structure S90 where
  f0:(List S42)
  f1:(List S42)
end Go.Proofs.YtcomnjodjijcmaaGreat.P
namespace Go.Proofs.YtcomnjodjijcmaaGreat.P
set_option linter.unusedVariables false
set_option linter.unusedSimpArgs false
open Go.RowKit
abbrev Sp:=S42
structure Bd where
  at_:Int
  a:Bool
  b:Bool
def oO:List Sp→Bool→Int
  | [],_=>0
  | s :: _,true=>wrap64 (s.f1+1)
  | s :: _,false=>s.f0
def jv:List Sp→Bool→Int→List Sp × Bool
  | [],i,_=>([],i)
  | s :: r,true,t=>if wrap64 (s.f1+1)=t then (r,false) else (s :: r,true)
  | s :: r,false,t=>if s.f0=t then (s :: r,true) else (s :: r,false)
def atL (a:List Sp) (ia:Bool) (b:List Sp) (ib:Bool):Int :=
  if a=[] then oO b ib else if b=[] then oO a ia else min (oO a ia) (oO b ib)
def msr (l:List Sp) (i:Bool):Nat:=2*l.length - (if i then 1 else 0)
theorem yB (l:List Sp) (i:Bool) (t:Int):msr (jv l i t).1 (jv l i t).2≤msr l i:=by
  match l,i with
  | [],i=>simp [jv,msr]
  | s :: r,true=>simp only [jv];split <;> simp [msr];omega
  | s :: r,false=>simp only [jv];split <;> simp [msr]
theorem yC (l:List Sp) (i:Bool) (hl:l≠[]):msr (jv l i (oO l i)).1 (jv l i (oO l i)).2<msr l i:=by
  match l,i with
  | [],i=>exact absurd rfl hl
  | s :: r,true=>simp [jv,oO,msr];omega
  | s :: r,false=>simp [jv,oO,msr];omega
theorem qE (a:List Sp) (ia:Bool) (b:List Sp) (ib:Bool) (h:¬ (a=[]∧b=[])) :
    msr (jv a ia (atL a ia b ib)).1 (jv a ia (atL a ia b ib)).2+msr (jv b ib (atL a ia b ib)).1 (jv b ib (atL a ia b ib)).2<msr a ia+msr b ib:=by
  have ha:=yB a ia (atL a ia b ib);have hb:=yB b ib (atL a ia b ib);have key:(a≠[]∧atL a ia b ib=oO a ia)∨(b≠[]∧atL a ia b ib=oO b ib):=by
    unfold atL;by_cases h1:a=[]
    · have h2:b≠[]:=fun e=>h ⟨h1,e⟩
      exact .inr ⟨h2,by rw [if_pos h1]⟩
    · by_cases h2:b=[]
      · exact .inl ⟨h1,by rw [if_neg h1,if_pos h2]⟩
      · rw [if_neg h1,if_neg h2]
        rcases Int.le_total (oO a ia) (oO b ib) with h3 | h3
        · exact .inl ⟨h1,by omega⟩
        · exact .inr ⟨h2,by omega⟩
  rcases key with ⟨hn,e⟩ | ⟨hn,e⟩
  · have:=yC a ia hn
    rw [e] at ha hb ⊢;omega
  · have:=yC b ib hn
    rw [e] at ha hb ⊢;omega
def qd (a:List Sp) (ia:Bool) (b:List Sp) (ib:Bool):List Bd :=
  if h:a=[]∧b=[] then [] else
    let t:=atL a ia b ib
    let p:=jv a ia t
    let q:=jv b ib t
    ⟨t,p.2,q.2⟩ :: qd p.1 p.2 q.1 q.2
termination_by msr a ia+msr b ib
decreasing_by exact qE a ia b ib h
theorem nY (ia ib:Bool):qd [] ia [] ib=[]:=by rw [qd];simp
theorem sw (a:List Sp) (ia:Bool) (b:List Sp) (ib:Bool) (h:¬ (a=[]∧b=[])) :
    qd a ia b ib=⟨atL a ia b ib,(jv a ia (atL a ia b ib)).2,(jv b ib (atL a ia b ib)).2⟩ :: qd (jv a ia (atL a ia b ib)).1 (jv a ia (atL a ia b ib)).2 (jv b ib (atL a ia b ib)).1 (jv b ib (atL a ia b ib)).2:=by
  rw [qd,dif_neg h]
structure Kst where
  inn:Bool
  from_:Int
  out:List Sp
def kV (yes:Bool→Bool→Bool) (s:Kst) (x:Bd):Kst :=
  if yes x.a x.b && !s.inn then ⟨yes x.a x.b,x.at_,s.out⟩
  else if !(yes x.a x.b)&&s.inn then ⟨yes x.a x.b,s.from_,s.out++[⟨s.from_,wrap64 (x.at_ - 1)⟩]⟩
  else ⟨yes x.a x.b,s.from_,s.out⟩
def aez (yes:Bool→Bool→Bool) (xs:List Bd):Kst:=xs.foldl (kV yes) ⟨false,0,[]⟩
theorem aaW (yes:Bool→Bool→Bool) (s:Kst) (x:Bd):(kV yes s x).out.length≤s.out.length+1:=by
  unfold kV;split <;> (try split) <;> simp
def qF (yes:Bool→Bool→Bool) (a b:List Sp):List Sp:=(aez yes (qd a false b false)).out
end Go.Proofs.YtcomnjodjijcmaaGreat.P
