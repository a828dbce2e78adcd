/- Lemmas for laws of chapter 7: what the functions that they reach compute. No condition of its own. -/
import Derived.Test.YtcomnjodjijcmaaGreatYB9
import Derived.Test.YtcomnjodjijcmaaGreatYB10
import Derived.Test.YtcomnjodjijcmaaGreatYB12
import Derived.Test.YtcomnjodjijcmaaGreatYB13
import Derived.Test.YtcomnjodjijcmaaGreatYB14
import Derived.Test.YtcomnjodjijcmaaGreatYB2
import Derived.Deep.SlicePairs
import Derived.ChangeArms
import Derived.ProofKit
import Derived.Deep.Slices
namespace Go.Proofs.YtcomnjodjijcmaaGreat.R
open M Go.RowKit Go.Proofs.YtcomnjodjijcmaaGreatW.dA Go.Proofs.YtcomnjodjijcmaaGreatW.dW Go.Proofs.YtcomnjodjijcmaaGreatW.eD
set_option linter.unusedVariables false
noncomputable def dh.m (k:Nat):Sm:=iY [.fm,(.int .i64)] [.pl .fm,.pl (.int .i64)] (fun a=>dh.f k a.1.f0 a.1.f1 a.1.f2 a.1.f3 a.2.1)
noncomputable def dh.y0.p0:List PB:=[.box 25 [.i .i64,.i .i64,.s (.sl 42 .sp),.s .gr],.box 25 [.li .i64 0,.li .i64 0,.lo 37 (.sl 42 .sp),.lo 44 .gr],.box 25 [.i .i64,.i .i64,.o 37 (.sl 42 .sp),.o 44 .gr],.box 44 [.i .i64,.s .sp],.box 37 [.lo 42 .sp],.box 29 [.i .i64],.box 37 [.mu 42 .sp],.box 81 [.fn 72 [0]],.box 3 [.i .i64],.box 3 [.i .i64],.lp .ret]
noncomputable def dh.y0.p1:List PB:=[.box 25 [.i .i64,.i .i64,.s (.sl 42 .sp),.s .gr],.box 25 [.li .i64 0,.li .i64 0,.lo 37 (.sl 42 .sp),.lo 44 .gr],.box 25 [.i .i64,.i .i64,.o 37 (.sl 42 .sp),.o 44 .gr],.box 44 [.i .i64,.s .sp],.box 37 [.lo 42 .sp],.box 29 [.li .i64 0],.box 37 [.mu 42 .sp],.box 81 [.fn 72 [0]],.box 3 [.i .i64],.box 3 [.i .i64],.lp .normal]
noncomputable def dh.y0 {γ:Type} (x:AV) (bx:List Bx) (x0:Int→Int→(List (List P.S42))→(List P.S44)→Int→Int→(List (List P.S42))→(List P.S44)→Int→(List P.S42)→Int→(List P.S42)→Int→Int→Option γ) (x1:Int→Int→(List (List P.S42))→(List P.S44)→Int→Int→(List (List P.S42))→(List P.S44)→Int→(List P.S42)→(List P.S42)→Int→Int→Option γ):Option γ :=
  match yrd false dh.y0.p0 x bx with
  | some [.i z1,.i z2,.l (.sl 42 .sp) z3,.l .gr z4,.i z5,.i z6,.l (.sl 42 .sp) z7,.l .gr z8,.i z9,.l .sp z10,.i z11,.l .sp z12,.i z13,.i z14]=>(x0 z1 z2 z3 z4 z5 z6 z7 z8 z9 z10 z11 z12 z13 z14)
  | _=>match yrd true dh.y0.p1 x bx with
  | some [.i z1,.i z2,.l (.sl 42 .sp) z3,.l .gr z4,.i z5,.i z6,.l (.sl 42 .sp) z7,.l .gr z8,.i z9,.l .sp z10,.l .sp z11,.i z12,.i z13]=>(x1 z1 z2 z3 z4 z5 z6 z7 z8 z9 z10 z11 z12 z13)
  | _=>none
noncomputable def dh.y0T {γ:Type}:YdK γ:=fun K x bx=>dh.y0 x bx (fun z1 z2 z3 z4 z5 z6 z7 z8 z9 aa ab z12 ac af=>K (lH false) (zk dh.y0.p0 [.i z1,.i z2,.l (.sl 42 .sp) z3,.l .gr z4,.i z5,.i z6,.l (.sl 42 .sp) z7,.l .gr z8,.i z9,.l .sp aa,.i ab,.l .sp z12,.i ac,.i af]).1) (fun z1 z2 z3 z4 z5 z6 z7 z8 z9 aa ab z12 ac=>K (lH true) (zk dh.y0.p1 [.i z1,.i z2,.l (.sl 42 .sp) z3,.l .gr z4,.i z5,.i z6,.l (.sl 42 .sp) z7,.l .gr z8,.i z9,.l .sp aa,.l .sp ab,.i z12,.i ac]).1)
theorem dh.aaS {γ:Type}:abz (dh.y0T (γ:=γ)):=fun K x bx v h=>by
  unfold dh.y0T dh.y0 at h;split at h
  · rename_i hy
    obtain ⟨rfl,rfl⟩:=qW hy;exact h
  · split at h
    · rename_i hy
      obtain ⟨rfl,rfl⟩:=qW hy;exact h
    · cases h
noncomputable def dh.y1.p0:List PB:=[.box 25 [.i .i64,.i .i64,.s (.sl 42 .sp),.s .gr],.box 25 [.li .i64 0,.li .i64 0,.lo 37 (.sl 42 .sp),.lo 44 .gr],.no,.box 25 [.i .i64,.i .i64,.s (.sl 42 .sp),.s .gr],.box 25 [.li .i64 0,.li .i64 0,.lo 37 (.sl 42 .sp),.lo 44 .gr],.box 25 [.i .i64,.i .i64,.o 37 (.sl 42 .sp),.lo 44 .gr],.box 37 [.lo 42 .sp],.box 29 [.i .i64],.box 37 [.mu 42 .sp],.box 81 [.fn 120 [3]],.box 3 [.i .i64],.box 3 [.i .i64],.lp .ret]
noncomputable def dh.y1.p1:List PB:=[.box 25 [.i .i64,.i .i64,.s (.sl 42 .sp),.s .gr],.box 25 [.li .i64 0,.li .i64 0,.lo 37 (.sl 42 .sp),.lo 44 .gr],.no,.box 25 [.i .i64,.i .i64,.s (.sl 42 .sp),.s .gr],.box 25 [.li .i64 0,.li .i64 0,.lo 37 (.sl 42 .sp),.lo 44 .gr],.box 25 [.i .i64,.i .i64,.o 37 (.sl 42 .sp),.lo 44 .gr],.box 37 [.lo 42 .sp],.box 29 [.li .i64 0],.box 37 [.mu 42 .sp],.box 81 [.fn 120 [3]],.box 3 [.i .i64],.box 3 [.i .i64],.lp .normal]
noncomputable def dh.y1 {γ:Type} (x:AV) (bx:List Bx) (x0:Int→Int→(List (List P.S42))→(List P.S44)→Int→Int→(List (List P.S42))→(List P.S44)→Int→Int→(List (List P.S42))→Int→(List P.S42)→Int→Int→Option γ) (x1:Int→Int→(List (List P.S42))→(List P.S44)→Int→Int→(List (List P.S42))→(List P.S44)→Int→Int→(List (List P.S42))→(List P.S42)→Int→Int→Option γ):Option γ :=
  match yrd false dh.y1.p0 x bx with
  | some [.i z1,.i z2,.l (.sl 42 .sp) z3,.l .gr z4,.i z5,.i z6,.l (.sl 42 .sp) z7,.l .gr z8,.i z9,.i z10,.l (.sl 42 .sp) z11,.i z12,.l .sp z13,.i z14,.i z15]=>(x0 z1 z2 z3 z4 z5 z6 z7 z8 z9 z10 z11 z12 z13 z14 z15)
  | _=>match yrd true dh.y1.p1 x bx with
  | some [.i z1,.i z2,.l (.sl 42 .sp) z3,.l .gr z4,.i z5,.i z6,.l (.sl 42 .sp) z7,.l .gr z8,.i z9,.i z10,.l (.sl 42 .sp) z11,.l .sp z12,.i z13,.i z14]=>(x1 z1 z2 z3 z4 z5 z6 z7 z8 z9 z10 z11 z12 z13 z14)
  | _=>none
noncomputable def dh.y1T {γ:Type}:YdK γ:=fun K x bx=>dh.y1 x bx (fun z1 z2 z3 z4 z5 z6 z7 z8 z9 aa ab z12 ac af ah=>K (lH false) (zk dh.y1.p0 [.i z1,.i z2,.l (.sl 42 .sp) z3,.l .gr z4,.i z5,.i z6,.l (.sl 42 .sp) z7,.l .gr z8,.i z9,.i aa,.l (.sl 42 .sp) ab,.i z12,.l .sp ac,.i af,.i ah]).1) (fun z1 z2 z3 z4 z5 z6 z7 z8 z9 aa ab z12 ac af=>K (lH true) (zk dh.y1.p1 [.i z1,.i z2,.l (.sl 42 .sp) z3,.l .gr z4,.i z5,.i z6,.l (.sl 42 .sp) z7,.l .gr z8,.i z9,.i aa,.l (.sl 42 .sp) ab,.l .sp z12,.i ac,.i af]).1)
theorem dh.ae3 {γ:Type}:abz (dh.y1T (γ:=γ)):=fun K x bx v h=>by
  unfold dh.y1T dh.y1 at h;split at h
  · rename_i hy
    obtain ⟨rfl,rfl⟩:=qW hy;exact h
  · split at h
    · rename_i hy
      obtain ⟨rfl,rfl⟩:=qW hy;exact h
    · cases h
noncomputable def dh.l1.p:PS:=⟨[.one (.yl 10),nO,.one (.bp 7 0),.one (.bp 8 0),nO,nO,.one (.i .i64),.one (.i .i64)]++nOs 13,[.box 25 [.i .i64,.i .i64,.s (.sl 42 .sp),.s .gr],.box 25 [.li .i64 0,.li .i64 0,.lo 37 (.sl 42 .sp),.lo 44 .gr],.box 25 [.i .i64,.i .i64,.o 37 (.sl 42 .sp),.o 44 .gr],.box 44 [.i .i64,.s .sp],.box 37 [.lo 42 .sp],.box 29 [.li .i64 0],.box 37 [.mu 42 .sp],.box 81 [.fn 72 [0]],.box 3 [.i .i64],.box 3 [.i .i64],.lp .normal]⟩
noncomputable def dh.l1.c {γ:Type} (YK:HdK γ) (K:dS→St→Option γ)  := ((fun q0 q1 q2 q3 q4 q5 q6 q7 q8 q9 af ah ai aj ak x0 x1=>(YK 10).bind fun h=>h [.pt (.one (.sl .sp q0)),.pt (.one (.v (.int .i64 q1)))] [.box 25 [.v (.int .i64 q2),.v (.int .i64 q3),.sl (.sl 42 .sp) q4,.sl .gr q5],.box 25 [.v (.int .i64 0),.v (.int .i64 0),.ow 37 (.sl 42 .sp) [],.ow 44 .gr []],.box 25 [.v (.int .i64 q6),.v (.int .i64 q7),.ow 37 (.sl 42 .sp) q8,.ow 44 .gr q9],.box 44 [.v (.int .i64 af),.sl .sp ah],.box 37 [.ow 42 .sp []],.box 29 [.v (.int .i64 0)],.box 37 [.mu 42 .sp ai],.box 81 [.fn 72 [0]],.box 3 [.v (.int .i64 aj)],.box 3 [.v (.int .i64 ak)],.lp .normal] (fun x bx=>dh.y0 x bx x0 x1)),(fun y1 y2 y3 y4 y5 y6 y7 y8 y9 aa ab ac y13 am=>K .ret ((⟨nOs 21,[.box 25 [.i .i64,.i .i64,.s (.sl 42 .sp),.s .gr],.box 25 [.li .i64 0,.li .i64 0,.lo 37 (.sl 42 .sp),.lo 44 .gr],.box 25 [.i .i64,.i .i64,.o 37 (.sl 42 .sp),.o 44 .gr],.box 44 [.i .i64,.s .sp],.box 37 [.lo 42 .sp],.box 29 [.i .i64],.box 37 [.mu 42 .sp],.box 81 [.fn 72 [0]],.box 3 [.i .i64],.box 3 [.i .i64],.lp .ret]⟩:PS).mk' [.i y1,.i y2,.l (.sl 42 .sp) y3,.l .gr y4,.i y5,.i y6,.l (.sl 42 .sp) y7,.l .gr y8,.i y9,.l .sp aa,.i ab,.l .sp ac,.i y13,.i am])),(fun y1 y2 y3 y4 y5 y6 y7 y8 y9 aa ab ac y13=>K (.exit 0) ((⟨nOs 21,[.box 25 [.i .i64,.i .i64,.s (.sl 42 .sp),.s .gr],.box 25 [.li .i64 0,.li .i64 0,.lo 37 (.sl 42 .sp),.lo 44 .gr],.box 25 [.i .i64,.i .i64,.o 37 (.sl 42 .sp),.o 44 .gr],.box 44 [.i .i64,.s .sp],.box 37 [.lo 42 .sp],.box 29 [.li .i64 0],.box 37 [.mu 42 .sp],.box 81 [.fn 72 [0]],.box 3 [.i .i64],.box 3 [.i .i64],.lp .normal]⟩:PS).mk' [.i y1,.i y2,.l (.sl 42 .sp) y3,.l .gr y4,.i y5,.i y6,.l (.sl 42 .sp) y7,.l .gr y8,.i y9,.l .sp aa,.l .sp ab,.i ac,.i y13])))
noncomputable def dh.l1.g {γ:Type} (YK:HdK γ) (k:Nat) (K:dS→St→Option γ):List Lf→Option γ
  | [.i c1,.i v2,.i v3,.i v4,.l (.sl 42 .sp) v5,.l .gr v6,.i v7,.i v8,.l (.sl 42 .sp) v9,.l .gr v10,.i v11,.l .sp v12,.l .sp v13,.i v14,.i v15]=>let q:=dh.l1.c YK K;dh.l1 q.1 q.2.1 q.2.2 c1 k v2 v3 v4 v5 v6 v7 v8 v9 v10 v11 v12 v13 v14 v15
  | _=>none
noncomputable def dh.l0.p:PS:=⟨[nO,.one (.i .i64),.one (.bp 0 0),nO,.one (.bp 1 0),nO,.one (.bp 2 0)]++nOs 27++[.one (.s .gr),.one (.i .i64),.one (.i .i64)]++nOs 52,[.box 25 [.i .i64,.i .i64,.s (.sl 42 .sp),.s .gr],.box 25 [.li .i64 0,.li .i64 0,.lo 37 (.sl 42 .sp),.lo 44 .gr],.box 25 [.i .i64,.i .i64,.o 37 (.sl 42 .sp),.o 44 .gr]]⟩
noncomputable def dh.l0.c {γ:Type} (YK:HdK γ) (K:dS→St→Option γ)  := ((fun y1 y2 y3 y4 y5 y6 y7 y8=>K .ret ((⟨nOs 4++[.one (.bp 1 0),.one (.li .i64 20),.one (.bp 2 0)]++nOs 82,[.box 25 [.i .i64,.i .i64,.s (.sl 42 .sp),.s .gr],.box 25 [.li .i64 0,.li .i64 0,.lo 37 (.sl 42 .sp),.lo 44 .gr],.box 25 [.i .i64,.i .i64,.o 37 (.sl 42 .sp),.o 44 .gr]]⟩:PS).mk' [.i y1,.i y2,.l (.sl 42 .sp) y3,.l .gr y4,.i y5,.i y6,.l (.sl 42 .sp) y7,.l .gr y8])),(fun y1 y2 y3 y4 y5 y6 y7 y8=>K (.exit 0) ((⟨nOs 4++[.one (.bp 1 0),nO,.one (.bp 2 0)]++nOs 82,[.box 25 [.i .i64,.i .i64,.s (.sl 42 .sp),.s .gr],.box 25 [.li .i64 0,.li .i64 0,.lo 37 (.sl 42 .sp),.lo 44 .gr],.box 25 [.i .i64,.i .i64,.o 37 (.sl 42 .sp),.o 44 .gr]]⟩:PS).mk' [.i y1,.i y2,.l (.sl 42 .sp) y3,.l .gr y4,.i y5,.i y6,.l (.sl 42 .sp) y7,.l .gr y8])))
noncomputable def dh.l0.g {γ:Type} (YK:HdK γ) (k:Nat) (K:dS→St→Option γ):List Lf→Option γ
  | [.i c1,.l .gr c2,.i c3,.i v4,.i v5,.i v6,.l (.sl 42 .sp) v7,.l .gr v8,.i v9,.i v10,.l (.sl 42 .sp) v11,.l .gr v12]=>let q:=dh.l0.c YK K;dh.l0 q.1 q.2 c1 c2 c3 k v4 v5 v6 v7 v8 v9 v10 v11 v12
  | _=>none
noncomputable def dh.l2.p:PS:=⟨[nO,.one (.i .i64),.one (.bp 3 0),nO,.one (.bp 4 0),nO,.one (.i .i64),.one (.i .i64),.one (.i .i64)]++nOs 18++[.one (.s (.sl 42 .sp)),.one (.i .i64),.one (.i .i64)]++nOs 62,[.box 25 [.i .i64,.i .i64,.s (.sl 42 .sp),.s .gr],.box 25 [.li .i64 0,.li .i64 0,.lo 37 (.sl 42 .sp),.lo 44 .gr],.no,.box 25 [.i .i64,.i .i64,.s (.sl 42 .sp),.s .gr],.box 25 [.li .i64 0,.li .i64 0,.lo 37 (.sl 42 .sp),.lo 44 .gr]]⟩
noncomputable def dh.l2.c {γ:Type} (YK:HdK γ) (K:dS→St→Option γ) (c1:Int) (c2:Int) (c3:Int) (c8:Int) (c9:Int) (c10:List (List P.S42)) (c11:List P.S44) (c12:Int) (c13:Int) (c14:List (List P.S42)) (c15:List P.S44):=(fun y1=>K (.exit 0) ((⟨[nO,.one (.i .i64),.one (.bp 3 0),nO,.one (.bp 4 0),nO,.one (.i .i64),.one (.i .i64),.one (.i .i64)]++nOs 83,[.box 25 [.i .i64,.i .i64,.s (.sl 42 .sp),.s .gr],.box 25 [.li .i64 0,.li .i64 0,.lo 37 (.sl 42 .sp),.lo 44 .gr],.no,.box 25 [.i .i64,.i .i64,.s (.sl 42 .sp),.s .gr],.box 25 [.li .i64 0,.li .i64 0,.lo 37 (.sl 42 .sp),.lo 44 .gr]]⟩:PS).mk' [.i c1,.i c2,.i c3,.i y1,.i c8,.i c9,.l (.sl 42 .sp) c10,.l .gr c11,.i c12,.i c13,.l (.sl 42 .sp) c14,.l .gr c15]))
noncomputable def dh.l2.g {γ:Type} (YK:HdK γ) (k:Nat) (K:dS→St→Option γ):List Lf→Option γ
  | [.i c1,.i c2,.i c3,.i v4,.l (.sl 42 .sp) c5,.i c6,.i v7,.i c8,.i c9,.l (.sl 42 .sp) c10,.l .gr c11,.i c12,.i c13,.l (.sl 42 .sp) c14,.l .gr c15]=>dh.l2 (dh.l2.c YK K c1 c2 c3 c8 c9 c10 c11 c12 c13 c14 c15) c5 c6 k v4 v7
  | _=>none
noncomputable def dh.l4.p:PS:=⟨[.one (.yl 12),nO,.one (.bp 9 0),.one (.bp 10 0),nO,nO,.one (.i .i64),.one (.i .i64)]++nOs 13,[.box 25 [.i .i64,.i .i64,.s (.sl 42 .sp),.s .gr],.box 25 [.li .i64 0,.li .i64 0,.lo 37 (.sl 42 .sp),.lo 44 .gr],.no,.box 25 [.i .i64,.i .i64,.s (.sl 42 .sp),.s .gr],.box 25 [.li .i64 0,.li .i64 0,.lo 37 (.sl 42 .sp),.lo 44 .gr],.box 25 [.i .i64,.i .i64,.o 37 (.sl 42 .sp),.lo 44 .gr],.box 37 [.lo 42 .sp],.box 29 [.li .i64 0],.box 37 [.mu 42 .sp],.box 81 [.fn 120 [3]],.box 3 [.i .i64],.box 3 [.i .i64],.lp .normal]⟩
noncomputable def dh.l4.c {γ:Type} (YK:HdK γ) (K:dS→St→Option γ)  := ((fun q0 q1 q2 q3 q4 q5 q6 q7 q8 q9 ah ai aj ak am ao x0 x1=>(YK 12).bind fun h=>h [.pt (.one (.sl .sp q0)),.pt (.one (.v (.int .i64 q1)))] [.box 25 [.v (.int .i64 q2),.v (.int .i64 q3),.sl (.sl 42 .sp) q4,.sl .gr q5],.box 25 [.v (.int .i64 0),.v (.int .i64 0),.ow 37 (.sl 42 .sp) [],.ow 44 .gr []],.no,.box 25 [.v (.int .i64 q6),.v (.int .i64 q7),.sl (.sl 42 .sp) q8,.sl .gr q9],.box 25 [.v (.int .i64 0),.v (.int .i64 0),.ow 37 (.sl 42 .sp) [],.ow 44 .gr []],.box 25 [.v (.int .i64 ah),.v (.int .i64 ai),.ow 37 (.sl 42 .sp) aj,.ow 44 .gr []],.box 37 [.ow 42 .sp []],.box 29 [.v (.int .i64 0)],.box 37 [.mu 42 .sp ak],.box 81 [.fn 120 [3]],.box 3 [.v (.int .i64 am)],.box 3 [.v (.int .i64 ao)],.lp .normal] (fun x bx=>dh.y1 x bx x0 x1)),(fun y1 y2 y3 y4 y5 y6 y7 y8 y9 aa ab ac y13 af ap=>K .ret ((⟨nOs 21,[.box 25 [.i .i64,.i .i64,.s (.sl 42 .sp),.s .gr],.box 25 [.li .i64 0,.li .i64 0,.lo 37 (.sl 42 .sp),.lo 44 .gr],.no,.box 25 [.i .i64,.i .i64,.s (.sl 42 .sp),.s .gr],.box 25 [.li .i64 0,.li .i64 0,.lo 37 (.sl 42 .sp),.lo 44 .gr],.box 25 [.i .i64,.i .i64,.o 37 (.sl 42 .sp),.lo 44 .gr],.box 37 [.lo 42 .sp],.box 29 [.i .i64],.box 37 [.mu 42 .sp],.box 81 [.fn 120 [3]],.box 3 [.i .i64],.box 3 [.i .i64],.lp .ret]⟩:PS).mk' [.i y1,.i y2,.l (.sl 42 .sp) y3,.l .gr y4,.i y5,.i y6,.l (.sl 42 .sp) y7,.l .gr y8,.i y9,.i aa,.l (.sl 42 .sp) ab,.i ac,.l .sp y13,.i af,.i ap])),(fun y1 y2 y3 y4 y5 y6 y7 y8 y9 aa ab ac y13 af=>K (.exit 0) ((⟨nOs 21,[.box 25 [.i .i64,.i .i64,.s (.sl 42 .sp),.s .gr],.box 25 [.li .i64 0,.li .i64 0,.lo 37 (.sl 42 .sp),.lo 44 .gr],.no,.box 25 [.i .i64,.i .i64,.s (.sl 42 .sp),.s .gr],.box 25 [.li .i64 0,.li .i64 0,.lo 37 (.sl 42 .sp),.lo 44 .gr],.box 25 [.i .i64,.i .i64,.o 37 (.sl 42 .sp),.lo 44 .gr],.box 37 [.lo 42 .sp],.box 29 [.li .i64 0],.box 37 [.mu 42 .sp],.box 81 [.fn 120 [3]],.box 3 [.i .i64],.box 3 [.i .i64],.lp .normal]⟩:PS).mk' [.i y1,.i y2,.l (.sl 42 .sp) y3,.l .gr y4,.i y5,.i y6,.l (.sl 42 .sp) y7,.l .gr y8,.i y9,.i aa,.l (.sl 42 .sp) ab,.l .sp ac,.i y13,.i af])))
noncomputable def dh.l4.g {γ:Type} (YK:HdK γ) (k:Nat) (K:dS→St→Option γ):List Lf→Option γ
  | [.i c1,.i v2,.i v3,.i v4,.l (.sl 42 .sp) v5,.l .gr v6,.i v7,.i v8,.l (.sl 42 .sp) v9,.l .gr v10,.i v11,.i v12,.l (.sl 42 .sp) v13,.l .sp v14,.i v15,.i v16]=>let q:=dh.l4.c YK K;dh.l4 q.1 q.2.1 q.2.2 c1 k v2 v3 v4 v5 v6 v7 v8 v9 v10 v11 v12 v13 v14 v15 v16
  | _=>none
noncomputable def dh.l3.p:PS:=⟨[nO,.one (.i .i64),.one (.bp 3 0),nO,.one (.bp 4 0)]++nOs 6++[.one (.bp 5 0)]++nOs 55++[.one (.i .i64),.one (.i .i64)]++nOs 23,[.box 25 [.i .i64,.i .i64,.s (.sl 42 .sp),.s .gr],.box 25 [.li .i64 0,.li .i64 0,.lo 37 (.sl 42 .sp),.lo 44 .gr],.no,.box 25 [.i .i64,.i .i64,.s (.sl 42 .sp),.s .gr],.box 25 [.li .i64 0,.li .i64 0,.lo 37 (.sl 42 .sp),.lo 44 .gr],.box 25 [.i .i64,.i .i64,.o 37 (.sl 42 .sp),.lo 44 .gr]]⟩
noncomputable def dh.l3.c {γ:Type} (YK:HdK γ) (K:dS→St→Option γ)  := ((fun y1 y2 y3 y4 y5 y6 y7 y8 y9 aa ab ac=>K .ret ((⟨nOs 4++[.one (.bp 4 0),.one (.i .i64)]++nOs 5++[.one (.bp 5 0)]++nOs 80,[.box 25 [.i .i64,.i .i64,.s (.sl 42 .sp),.s .gr],.box 25 [.li .i64 0,.li .i64 0,.lo 37 (.sl 42 .sp),.lo 44 .gr],.no,.box 25 [.i .i64,.i .i64,.s (.sl 42 .sp),.s .gr],.box 25 [.li .i64 0,.li .i64 0,.lo 37 (.sl 42 .sp),.lo 44 .gr],.box 25 [.i .i64,.i .i64,.o 37 (.sl 42 .sp),.lo 44 .gr]]⟩:PS).mk' [.i y1,.i y2,.i y3,.l (.sl 42 .sp) y4,.l .gr y5,.i y6,.i y7,.l (.sl 42 .sp) y8,.l .gr y9,.i aa,.i ab,.l (.sl 42 .sp) ac])),(fun y1 y2 y3 y4 y5 y6 y7 y8 y9 aa ab=>K (.exit 2) ((⟨nOs 4++[.one (.bp 4 0)]++nOs 6++[.one (.bp 5 0)]++nOs 80,[.box 25 [.i .i64,.i .i64,.s (.sl 42 .sp),.s .gr],.box 25 [.li .i64 0,.li .i64 0,.lo 37 (.sl 42 .sp),.lo 44 .gr],.no,.box 25 [.i .i64,.i .i64,.s (.sl 42 .sp),.s .gr],.box 25 [.li .i64 0,.li .i64 0,.lo 37 (.sl 42 .sp),.lo 44 .gr],.box 25 [.i .i64,.i .i64,.o 37 (.sl 42 .sp),.lo 44 .gr]]⟩:PS).mk' [.i y1,.i y2,.l (.sl 42 .sp) y3,.l .gr y4,.i y5,.i y6,.l (.sl 42 .sp) y7,.l .gr y8,.i y9,.i aa,.l (.sl 42 .sp) ab])))
noncomputable def dh.l3.g {γ:Type} (YK:HdK γ) (k:Nat) (K:dS→St→Option γ):List Lf→Option γ
  | [.i c1,.i c2,.i v3,.i v4,.i v5,.l (.sl 42 .sp) v6,.l .gr v7,.i v8,.i v9,.l (.sl 42 .sp) v10,.l .gr v11,.i v12,.i v13,.l (.sl 42 .sp) v14]=>let q:=dh.l3.c YK K;dh.l3 q.1 q.2 c1 c2 k v3 v4 v5 v6 v7 v8 v9 v10 v11 v12 v13 v14
  | _=>none
noncomputable def dh.C {γ:Type}:Ctx γ:=mkC (fun k=>mkE [(19,fK.m k),(70,fM.m k),(73,iD.m k),(80,gK.m k),(105,gU.m k),(119,gX.m k)] [121]) [(31,Tryz.f31),(69,Tryz.f69),(71,Tryz.f71),(72,Tryz.f72),(120,Tryz.f120),(121,Tryz.f121),(154,Tryz.f154)] [(31,mkA [23,27,77,87] [(0,[1,2,4,6,34,35,36])] [(0,[4,5,6])] []),(69,mkA [48,56,65,85,91] [(0,[1,2,4,6,7,8,27,28,29]),(2,[1,2,4,11,67,68])] [(0,[1,2,4,6,7,8]),(2,[4,5,11])] []),(71,mkA [19,55,58] [] [] [(1,[],[.mu (.bx 8 0)]),(7,[.op (.bx 8 0)],[.cl (.bx 8 0)]),(8,[.op (.bx 8 0)],[.cl (.bx 8 0)]),(11,[.fz (.bx 8 0)],[])]),(72,mkA [8] [] [] []),(120,mkA [8] [] [] []),(121,mkA [] [] [] []),(154,mkA [] [(0,[0,2,3,6,7])] [(0,[])] [])] [⟨2,154,0,gY [(dh.l4.p,dh.l4.g)]⟩,⟨3,154,0,gY [(dh.l1.p,dh.l1.g)]⟩,⟨4,69,0,gY [(dh.l2.p,dh.l2.g)]⟩,⟨4,69,2,gY [(dh.l3.p,dh.l3.g)]⟩,⟨5,31,0,gY [(dh.l0.p,dh.l0.g)]⟩] [⟨3,154,10,dh.y0T⟩,⟨2,154,12,dh.y1T⟩]
theorem dh.l1.eq {γ:Type} (YK:HdK γ) (rl:Option Nat) (K:dS→St→Option γ) (c1:Int):∀ k:Nat,(fun (v2:Int) (v3:Int) (v4:Int) (v5:List (List P.S42)) (v6:List P.S44) (v7:Int) (v8:Int) (v9:List (List P.S42)) (v10:List P.S44) (v11:Int) (v12:List P.S42) (v13:List P.S42) (v14:Int) (v15:Int)=>dh.C.lK 3 154 0 Tryz.f154 YK rl 11 k (dh.l1.p.mk' [.i c1,.i v2,.i v3,.i v4,.l (.sl 42 .sp) v5,.l .gr v6,.i v7,.i v8,.l (.sl 42 .sp) v9,.l .gr v10,.i v11,.l .sp v12,.l .sp v13,.i v14,.i v15]) K)=(fun (v2:Int) (v3:Int) (v4:Int) (v5:List (List P.S42)) (v6:List P.S44) (v7:Int) (v8:Int) (v9:List (List P.S42)) (v10:List P.S44) (v11:Int) (v12:List P.S42) (v13:List P.S42) (v14:Int) (v15:Int)=>dh.l1.g YK k K [.i c1,.i v2,.i v3,.i v4,.l (.sl 42 .sp) v5,.l .gr v6,.i v7,.i v8,.l (.sl 42 .sp) v9,.l .gr v10,.i v11,.l .sp v12,.l .sp v13,.i v14,.i v15]):=eZ (fun R k v2 v3 v4 v5 v6 v7 v8 v9 v10 v11 v12 v13 v14 v15=>dh.l1T (dh.l1.c YK K).1 (dh.l1.c YK K).2.1 (dh.l1.c YK K).2.2 c1 R k v2 v3 v4 v5 v6 v7 v8 v9 v10 v11 v12 v13 v14 v15) (by kernel_rfl) (fun k=>by kernel_rfl) (fun k=>by kernel_rfl)
theorem dh.l0.eq {γ:Type} (YK:HdK γ) (rl:Option Nat) (K:dS→St→Option γ) (c1:Int) (c2:List P.S44) (c3:Int):∀ k:Nat,(fun (v4:Int) (v5:Int) (v6:Int) (v7:List (List P.S42)) (v8:List P.S44) (v9:Int) (v10:Int) (v11:List (List P.S42)) (v12:List P.S44)=>dh.C.lK 5 31 0 Tryz.f31 YK rl 3 k (dh.l0.p.mk' [.i c1,.l .gr c2,.i c3,.i v4,.i v5,.i v6,.l (.sl 42 .sp) v7,.l .gr v8,.i v9,.i v10,.l (.sl 42 .sp) v11,.l .gr v12]) K)=(fun (v4:Int) (v5:Int) (v6:Int) (v7:List (List P.S42)) (v8:List P.S44) (v9:Int) (v10:Int) (v11:List (List P.S42)) (v12:List P.S44)=>dh.l0.g YK k K [.i c1,.l .gr c2,.i c3,.i v4,.i v5,.i v6,.l (.sl 42 .sp) v7,.l .gr v8,.i v9,.i v10,.l (.sl 42 .sp) v11,.l .gr v12]):=eZ (fun R k v4 v5 v6 v7 v8 v9 v10 v11 v12=>dh.l0T (dh.l0.c YK K).1 (dh.l0.c YK K).2 c1 c2 c3 R k v4 v5 v6 v7 v8 v9 v10 v11 v12) (by kernel_rfl) (fun k=>by kernel_rfl) (fun k=>by kernel_rfl)
theorem dh.l2.eq {γ:Type} (YK:HdK γ) (rl:Option Nat) (K:dS→St→Option γ) (c1:Int) (c2:Int) (c3:Int) (c5:List (List P.S42)) (c6:Int) (c8:Int) (c9:Int) (c10:List (List P.S42)) (c11:List P.S44) (c12:Int) (c13:Int) (c14:List (List P.S42)) (c15:List P.S44):∀ k:Nat,(fun (v4:Int) (v7:Int)=>dh.C.lK 4 69 0 Tryz.f69 YK rl 5 k (dh.l2.p.mk' [.i c1,.i c2,.i c3,.i v4,.l (.sl 42 .sp) c5,.i c6,.i v7,.i c8,.i c9,.l (.sl 42 .sp) c10,.l .gr c11,.i c12,.i c13,.l (.sl 42 .sp) c14,.l .gr c15]) K)=(fun (v4:Int) (v7:Int)=>dh.l2.g YK k K [.i c1,.i c2,.i c3,.i v4,.l (.sl 42 .sp) c5,.i c6,.i v7,.i c8,.i c9,.l (.sl 42 .sp) c10,.l .gr c11,.i c12,.i c13,.l (.sl 42 .sp) c14,.l .gr c15]):=eZ (fun R k v4 v7=>dh.l2T (dh.l2.c YK K c1 c2 c3 c8 c9 c10 c11 c12 c13 c14 c15) c5 c6 R k v4 v7) (by kernel_rfl) (fun k=>by kernel_rfl) (fun k=>by kernel_rfl)
theorem dh.l4.eq {γ:Type} (YK:HdK γ) (rl:Option Nat) (K:dS→St→Option γ) (c1:Int):∀ k:Nat,(fun (v2:Int) (v3:Int) (v4:Int) (v5:List (List P.S42)) (v6:List P.S44) (v7:Int) (v8:Int) (v9:List (List P.S42)) (v10:List P.S44) (v11:Int) (v12:Int) (v13:List (List P.S42)) (v14:List P.S42) (v15:Int) (v16:Int)=>dh.C.lK 2 154 0 Tryz.f154 YK rl 13 k (dh.l4.p.mk' [.i c1,.i v2,.i v3,.i v4,.l (.sl 42 .sp) v5,.l .gr v6,.i v7,.i v8,.l (.sl 42 .sp) v9,.l .gr v10,.i v11,.i v12,.l (.sl 42 .sp) v13,.l .sp v14,.i v15,.i v16]) K)=(fun (v2:Int) (v3:Int) (v4:Int) (v5:List (List P.S42)) (v6:List P.S44) (v7:Int) (v8:Int) (v9:List (List P.S42)) (v10:List P.S44) (v11:Int) (v12:Int) (v13:List (List P.S42)) (v14:List P.S42) (v15:Int) (v16:Int)=>dh.l4.g YK k K [.i c1,.i v2,.i v3,.i v4,.l (.sl 42 .sp) v5,.l .gr v6,.i v7,.i v8,.l (.sl 42 .sp) v9,.l .gr v10,.i v11,.i v12,.l (.sl 42 .sp) v13,.l .sp v14,.i v15,.i v16]):=eZ (fun R k v2 v3 v4 v5 v6 v7 v8 v9 v10 v11 v12 v13 v14 v15 v16=>dh.l4T (dh.l4.c YK K).1 (dh.l4.c YK K).2.1 (dh.l4.c YK K).2.2 c1 R k v2 v3 v4 v5 v6 v7 v8 v9 v10 v11 v12 v13 v14 v15 v16) (by kernel_rfl) (fun k=>by kernel_rfl) (fun k=>by kernel_rfl)
theorem dh.l3.eq {γ:Type} (YK:HdK γ) (rl:Option Nat) (K:dS→St→Option γ) (c1:Int) (c2:Int):∀ k:Nat,(fun (v3:Int) (v4:Int) (v5:Int) (v6:List (List P.S42)) (v7:List P.S44) (v8:Int) (v9:Int) (v10:List (List P.S42)) (v11:List P.S44) (v12:Int) (v13:Int) (v14:List (List P.S42))=>dh.C.lK 4 69 2 Tryz.f69 YK rl 6 k (dh.l3.p.mk' [.i c1,.i c2,.i v3,.i v4,.i v5,.l (.sl 42 .sp) v6,.l .gr v7,.i v8,.i v9,.l (.sl 42 .sp) v10,.l .gr v11,.i v12,.i v13,.l (.sl 42 .sp) v14]) K)=(fun (v3:Int) (v4:Int) (v5:Int) (v6:List (List P.S42)) (v7:List P.S44) (v8:Int) (v9:Int) (v10:List (List P.S42)) (v11:List P.S44) (v12:Int) (v13:Int) (v14:List (List P.S42))=>dh.l3.g YK k K [.i c1,.i c2,.i v3,.i v4,.i v5,.l (.sl 42 .sp) v6,.l .gr v7,.i v8,.i v9,.l (.sl 42 .sp) v10,.l .gr v11,.i v12,.i v13,.l (.sl 42 .sp) v14]):=eZ (fun R k v3 v4 v5 v6 v7 v8 v9 v10 v11 v12 v13 v14=>dh.l3T (dh.l3.c YK K).1 (dh.l3.c YK K).2 c1 c2 R k v3 v4 v5 v6 v7 v8 v9 v10 v11 v12 v13 v14) (by kernel_rfl) (fun k=>by kernel_rfl) (fun k=>by kernel_rfl)
theorem dh.fE {γ:Type}:(dh.C (γ:=γ)).Ok:=⟨(all_cons (fun k=>by kernel_rfl) (all_cons (fun k=>by kernel_rfl) (all_cons (fun k=>by kernel_rfl) (all_cons (fun k=>by kernel_rfl) (all_cons (fun k=>by kernel_rfl) (all_cons (fun k=>by kernel_rfl) (all_cons (fun k=>by kernel_rfl) all_nil))))))),(all_cons (by kernel_rfl) (all_cons (by kernel_rfl) (all_cons (by kernel_rfl) (all_cons (by kernel_rfl) (all_cons (by kernel_rfl) (all_cons (by kernel_rfl) (all_cons (by kernel_rfl) all_nil))))))),(all_cons dh.aaS (all_cons dh.ae3 all_nil))⟩
theorem dh.e0 {γ:Type}:gy (dh.C (γ:=γ)) ⟨2,154,0,gY [(dh.l4.p,dh.l4.g)]⟩:=dh.fE.jW Tryz.f154 [] (by kernel_rfl) (by kernel_rfl) (by kernel_rfl) (all_cons iE (all_cons iE (all_cons iE (all_cons iE (all_cons iE all_nil))))) (all_cons (fun YK rl k ls K v hv=>(show dh.l4.g YK k K ls=some v→_ from fun hv=>by
  unfold dh.l4.g at hv;split at hv
  · exact (congrFun (congrFun (congrFun (congrFun (congrFun (congrFun (congrFun (congrFun (congrFun (congrFun (congrFun (congrFun (congrFun (congrFun (congrFun (dh.l4.eq YK rl K _ k) _) _) _) _) _) _) _) _) _) _) _) _) _) _) _).trans hv
  · cases hv) hv) all_nil)
theorem dh.e1 {γ:Type}:gy (dh.C (γ:=γ)) ⟨3,154,0,gY [(dh.l1.p,dh.l1.g)]⟩:=dh.fE.jW Tryz.f154 [] (by kernel_rfl) (by kernel_rfl) (by kernel_rfl) (all_cons (fun _=>dh.e0) (all_cons iE (all_cons iE (all_cons iE (all_cons iE all_nil))))) (all_cons (fun YK rl k ls K v hv=>(show dh.l1.g YK k K ls=some v→_ from fun hv=>by
  unfold dh.l1.g at hv;split at hv
  · exact (congrFun (congrFun (congrFun (congrFun (congrFun (congrFun (congrFun (congrFun (congrFun (congrFun (congrFun (congrFun (congrFun (congrFun (dh.l1.eq YK rl K _ k) _) _) _) _) _) _) _) _) _) _) _) _) _) _).trans hv
  · cases hv) hv) all_nil)
theorem dh.e2 {γ:Type}:gy (dh.C (γ:=γ)) ⟨4,69,0,gY [(dh.l2.p,dh.l2.g)]⟩:=dh.fE.jW Tryz.f69 [] (by kernel_rfl) (by kernel_rfl) (by kernel_rfl) (all_cons (fun _=>dh.e0) (all_cons (fun _=>dh.e1) (all_cons iE (all_cons iE (all_cons iE all_nil))))) (all_cons (fun YK rl k ls K v hv=>(show dh.l2.g YK k K ls=some v→_ from fun hv=>by
  unfold dh.l2.g at hv;split at hv
  · exact (congrFun (congrFun (dh.l2.eq YK rl K _ _ _ _ _ _ _ _ _ _ _ _ _ k) _) _).trans hv
  · cases hv) hv) all_nil)
theorem dh.e3 {γ:Type}:gy (dh.C (γ:=γ)) ⟨4,69,2,gY [(dh.l3.p,dh.l3.g)]⟩:=dh.fE.jW Tryz.f69 [] (by kernel_rfl) (by kernel_rfl) (by kernel_rfl) (all_cons (fun _=>dh.e0) (all_cons (fun _=>dh.e1) (all_cons iE (all_cons iE (all_cons iE all_nil))))) (all_cons (fun YK rl k ls K v hv=>(show dh.l3.g YK k K ls=some v→_ from fun hv=>by
  unfold dh.l3.g at hv;split at hv
  · exact (congrFun (congrFun (congrFun (congrFun (congrFun (congrFun (congrFun (congrFun (congrFun (congrFun (congrFun (congrFun (dh.l3.eq YK rl K _ _ k) _) _) _) _) _) _) _) _) _) _) _) _).trans hv
  · cases hv) hv) all_nil)
theorem dh.e4 {γ:Type}:gy (dh.C (γ:=γ)) ⟨5,31,0,gY [(dh.l0.p,dh.l0.g)]⟩:=dh.fE.jW Tryz.f31 [] (by kernel_rfl) (by kernel_rfl) (by kernel_rfl) (all_cons (fun _=>dh.e0) (all_cons (fun _=>dh.e1) (all_cons (fun _=>dh.e2) (all_cons (fun _=>dh.e3) (all_cons iE all_nil))))) (all_cons (fun YK rl k ls K v hv=>(show dh.l0.g YK k K ls=some v→_ from fun hv=>by
  unfold dh.l0.g at hv;split at hv
  · exact (congrFun (congrFun (congrFun (congrFun (congrFun (congrFun (congrFun (congrFun (congrFun (dh.l0.eq YK rl K _ _ _ k) _) _) _) _) _) _) _) _) _).trans hv
  · cases hv) hv) all_nil)
theorem dh.ok (k:Nat):iV Tryz.prog 31 (dh.m k).s:=okW dh.fE 5 Tryz.f31 k (all_cons ⟨Tryz.f121,Tryz.func121,by kernel_rfl⟩ all_nil) (fun k=>all_cons (fK.ok k) (all_cons (fM.ok k) (all_cons (iD.ok k) (all_cons (gK.ok k) (all_cons (gU.ok k) (all_cons (gX.ok k) (all_nil))))))) (all_cons ⟨Tryz.func31,by kernel_rfl⟩ (all_cons ⟨Tryz.func69,by kernel_rfl⟩ (all_cons ⟨Tryz.func71,by kernel_rfl⟩ (all_cons ⟨Tryz.func72,by kernel_rfl⟩ (all_cons ⟨Tryz.func120,by kernel_rfl⟩ (all_cons ⟨Tryz.func121,by kernel_rfl⟩ (all_cons ⟨Tryz.func154,by kernel_rfl⟩ all_nil))))))) (all_cons dh.e0 (all_cons dh.e1 (all_cons dh.e2 (all_cons dh.e3 (all_cons dh.e4 all_nil))))) (by kernel_rfl) (by kernel_rfl) (fun a=>by kernel_rfl)
noncomputable def fP.m (k:Nat):Sm:=iY [] [.pl .fm] (fun a=>fP.f k)
noncomputable def fP.C {γ:Type}:Ctx γ:=mkC (fun k=>mkE [] []) [(32,Tryz.f32)] [(32,mkA [] [] [] [])] [] []
theorem fP.fE {γ:Type}:(fP.C (γ:=γ)).Ok:=⟨(all_cons (fun k=>by kernel_rfl) all_nil),(all_cons (by kernel_rfl) all_nil),all_nil⟩
theorem fP.ok (k:Nat):iV Tryz.prog 32 (fP.m k).s:=okW fP.fE 0 Tryz.f32 k all_nil (fun k=>all_nil) (all_cons ⟨Tryz.func32,by kernel_rfl⟩ all_nil) all_nil (by kernel_rfl) (by kernel_rfl) (fun a=>by kernel_rfl)
noncomputable def fO.m (k:Nat):Sm:=iY [.fm,(.int .i64),(.int .i64),(.int .i64)] [.pl .bool] (fun a=>fO.f k a.1.f0 a.1.f1 a.1.f2 a.1.f3 a.2.1 a.2.2.1 a.2.2.2.1)
noncomputable def fO.C {γ:Type}:Ctx γ:=mkC (fun k=>mkE [(19,fK.m k)] []) [(33,Tryz.f33)] [(33,mkA [] [] [] [])] [] []
theorem fO.fE {γ:Type}:(fO.C (γ:=γ)).Ok:=⟨(all_cons (fun k=>by kernel_rfl) all_nil),(all_cons (by kernel_rfl) all_nil),all_nil⟩
theorem fO.ok (k:Nat):iV Tryz.prog 33 (fO.m k).s:=okW fO.fE 0 Tryz.f33 k all_nil (fun k=>all_cons (fK.ok k) (all_nil)) (all_cons ⟨Tryz.func33,by kernel_rfl⟩ all_nil) all_nil (by kernel_rfl) (by kernel_rfl) (fun a=>by kernel_rfl)
noncomputable def eX.m (k:Nat):Sm:=iY [] [.pl .bool] (fun a=>eX.f k)
noncomputable def eX.C {γ:Type}:Ctx γ:=mkC (fun k=>mkE [(11,dD.m k),(12,dM.m k),(13,dJ.m k),(14,cZ.m k),(29,fq.m k),(30,fF.m k),(31,dh.m k),(32,fP.m k),(33,fO.m k)] []) [(9,Tryz.f9)] [(9,mkA [] [] [] [])] [] []
theorem eX.fE {γ:Type}:(eX.C (γ:=γ)).Ok:=⟨(all_cons (fun k=>by kernel_rfl) all_nil),(all_cons (by kernel_rfl) all_nil),all_nil⟩
theorem eX.ok (k:Nat):iV Tryz.prog 9 (eX.m k).s:=okW eX.fE 0 Tryz.f9 k all_nil (fun k=>all_cons (dD.ok k) (all_cons (dM.ok k) (all_cons (dJ.ok k) (all_cons (cZ.ok k) (all_cons (fq.ok k) (all_cons (fF.ok k) (all_cons (dh.ok k) (all_cons (fP.ok k) (all_cons (fO.ok k) (all_nil)))))))))) (all_cons ⟨Tryz.func9,by kernel_rfl⟩ all_nil) all_nil (by kernel_rfl) (by kernel_rfl) (fun a=>by kernel_rfl)
noncomputable def jP.m (k:Nat):Sm:=iY [(.sl 42 .sp)] [.own 42 .sp] (fun a=>jP.f k a.1)
noncomputable def iJ.m (k:Nat):Sm:=iY [.fm,.fm] [.pl .bool,.pl (.int .i64)] (fun a=>iJ.f k a.1.f0 a.1.f1 a.1.f2 a.1.f3 a.2.1.f0 a.2.1.f1 a.2.1.f2 a.2.1.f3)
noncomputable def iJ.C {γ:Type}:Ctx γ:=mkC (fun k=>mkE [(10,dN.m k),(40,dL.m k),(41,dO.m k),(42,dU.m k)] []) [(16,Tryz.f16)] [(16,mkA [] [] [] [])] [] []
theorem iJ.fE {γ:Type}:(iJ.C (γ:=γ)).Ok:=⟨(all_cons (fun k=>by kernel_rfl) all_nil),(all_cons (by kernel_rfl) all_nil),all_nil⟩
theorem iJ.ok (k:Nat):iV Tryz.prog 16 (iJ.m k).s:=okW iJ.fE 0 Tryz.f16 k all_nil (fun k=>all_cons (dN.ok k) (all_cons (dL.ok k) (all_cons (dO.ok k) (all_cons (dU.ok k) (all_nil))))) (all_cons ⟨Tryz.func16,by kernel_rfl⟩ all_nil) all_nil (by kernel_rfl) (by kernel_rfl) (fun a=>by kernel_rfl)
end Go.Proofs.YtcomnjodjijcmaaGreat.R
namespace Go.Proofs.YtcomnjodjijcmaaGreat.R
open M Go.RowKit Go.Proofs.YtcomnjodjijcmaaGreatW.dA Go.Proofs.YtcomnjodjijcmaaGreatW.dW Go.Proofs.YtcomnjodjijcmaaGreatW.eD
set_option linter.unusedVariables false
noncomputable def dw.m (k:Nat):Sm:=iY [.fm,.fm,(.int .i16)] [.pl .bool] (fun a=>dw.f k a.1.f0 a.1.f1 a.1.f2 a.1.f3 a.2.1.f0 a.2.1.f1 a.2.1.f2 a.2.1.f3 a.2.2.1)
noncomputable def dw.l2.p:PS:=⟨nOs 151,[.box 25 [.i .i64,.i .i64,.s (.sl 42 .sp),.s .gr],.box 25 [.i .i64,.i .i64,.s (.sl 42 .sp),.s .gr],.box 25 [.i .i64,.i .i64,.s (.sl 42 .sp),.s .gr],.box 25 [.i .i64,.i .i64,.s (.sl 42 .sp),.s .gr]]⟩
noncomputable def dw.l2.c {γ:Type} (YK:HdK γ) (K:dS→St→Option γ)  := ((fun y1 y2 y3 y4 y5 y6 y7 y8 y9 aa ab ac y13 af ah ai aj ak am y20 y21 y22 y23 y24 y25 ao y27=>K .ret ((⟨nOs 6++[.one (.b)]++nOs 144,[.box 25 [.i .i64,.i .i64,.s (.sl 42 .sp),.s .gr],.box 25 [.i .i64,.i .i64,.s (.sl 42 .sp),.s .gr],.box 25 [.i .i64,.i .i64,.s (.sl 42 .sp),.s .gr],.box 25 [.i .i64,.i .i64,.s (.sl 42 .sp),.s .gr],.box 25 [.li .i64 0,.li .i64 0,.lo 37 (.sl 42 .sp),.s .gr],.box 25 [.li .i64 0,.li .i64 0,.lo 37 (.sl 42 .sp),.s .gr],.box 25 [.i .i64,.i .i64,.s (.sl 42 .sp),.s .gr],.box 25 [.i .i64,.i .i64,.s (.sl 42 .sp),.s .gr]]⟩:PS).mk' [.b y1,.i y2,.i y3,.l (.sl 42 .sp) y4,.l .gr y5,.i y6,.i y7,.l (.sl 42 .sp) y8,.l .gr y9,.i aa,.i ab,.l (.sl 42 .sp) ac,.l .gr y13,.i af,.i ah,.l (.sl 42 .sp) ai,.l .gr aj,.l .gr ak,.l .gr am,.i y20,.i y21,.l (.sl 42 .sp) y22,.l .gr y23,.i y24,.i y25,.l (.sl 42 .sp) ao,.l .gr y27])),(fun y1 y2 y3 y4 y5 y6 y7 y8 y9 aa ab ac y13 af ah ai aj ak am y20 y21 y22 y23 y24 y25 ao=>K .ret ((⟨nOs 6++[.one (.lb false)]++nOs 144,[.box 25 [.i .i64,.i .i64,.s (.sl 42 .sp),.s .gr],.box 25 [.i .i64,.i .i64,.s (.sl 42 .sp),.s .gr],.box 25 [.i .i64,.i .i64,.s (.sl 42 .sp),.s .gr],.box 25 [.i .i64,.i .i64,.s (.sl 42 .sp),.s .gr],.box 25 [.li .i64 0,.li .i64 0,.lo 37 (.sl 42 .sp),.s .gr],.box 25 [.li .i64 0,.li .i64 0,.lo 37 (.sl 42 .sp),.s .gr],.box 25 [.i .i64,.i .i64,.s (.sl 42 .sp),.s .gr],.box 25 [.i .i64,.i .i64,.s (.sl 42 .sp),.s .gr]]⟩:PS).mk' [.i y1,.i y2,.l (.sl 42 .sp) y3,.l .gr y4,.i y5,.i y6,.l (.sl 42 .sp) y7,.l .gr y8,.i y9,.i aa,.l (.sl 42 .sp) ab,.l .gr ac,.i y13,.i af,.l (.sl 42 .sp) ah,.l .gr ai,.l .gr aj,.l .gr ak,.i am,.i y20,.l (.sl 42 .sp) y21,.l .gr y22,.i y23,.i y24,.l (.sl 42 .sp) y25,.l .gr ao])))
noncomputable def dw.l2.g {γ:Type} (YK:HdK γ) (k:Nat) (K:dS→St→Option γ):List Lf→Option γ
  | [.i v1,.i v2,.l (.sl 42 .sp) v3,.l .gr v4,.i v5,.i v6,.l (.sl 42 .sp) v7,.l .gr v8,.i v9,.i v10,.l (.sl 42 .sp) v11,.l .gr v12,.i v13,.i v14,.l (.sl 42 .sp) v15,.l .gr v16]=>let q:=dw.l2.c YK K;dw.l2 q.1 q.2 k v1 v2 v3 v4 v5 v6 v7 v8 v9 v10 v11 v12 v13 v14 v15 v16
  | _=>none
noncomputable def dw.l1.p:PS:=⟨nOs 3++[.one (.bp 0 0),.one (.bp 1 0)]++nOs 6++[.one (.b)]++nOs 139,[.box 25 [.i .i64,.i .i64,.s (.sl 42 .sp),.s .gr],.box 25 [.i .i64,.i .i64,.s (.sl 42 .sp),.s .gr]]⟩
noncomputable def dw.l1.c {γ:Type} (YK:HdK γ) (K:dS→St→Option γ)  := ((fun y1 y2 y3 y4 y5 y6 y7 y8 y9 aa ab ac y13 af ah ai=>K .ret ((⟨nOs 6++[.one (.lb false)]++nOs 144,[.box 25 [.i .i64,.i .i64,.s (.sl 42 .sp),.s .gr],.box 25 [.i .i64,.i .i64,.s (.sl 42 .sp),.s .gr],.box 25 [.i .i64,.i .i64,.s (.sl 42 .sp),.s .gr],.box 25 [.i .i64,.i .i64,.s (.sl 42 .sp),.s .gr]]⟩:PS).mk' [.i y1,.i y2,.l (.sl 42 .sp) y3,.l .gr y4,.i y5,.i y6,.l (.sl 42 .sp) y7,.l .gr y8,.i y9,.i aa,.l (.sl 42 .sp) ab,.l .gr ac,.i y13,.i af,.l (.sl 42 .sp) ah,.l .gr ai])),(fun y1 y2 y3 y4 y5 y6 y7 y8 y9 aa ab ac y13 af ah ai aj ak am y20 y21 y22 y23 y24 y25 ao y27=>K .ret ((⟨nOs 6++[.one (.b)]++nOs 144,[.box 25 [.i .i64,.i .i64,.s (.sl 42 .sp),.s .gr],.box 25 [.i .i64,.i .i64,.s (.sl 42 .sp),.s .gr],.box 25 [.i .i64,.i .i64,.s (.sl 42 .sp),.s .gr],.box 25 [.i .i64,.i .i64,.s (.sl 42 .sp),.s .gr],.box 25 [.li .i64 0,.li .i64 0,.lo 37 (.sl 42 .sp),.s .gr],.box 25 [.li .i64 0,.li .i64 0,.lo 37 (.sl 42 .sp),.s .gr],.box 25 [.i .i64,.i .i64,.s (.sl 42 .sp),.s .gr],.box 25 [.i .i64,.i .i64,.s (.sl 42 .sp),.s .gr]]⟩:PS).mk' [.b y1,.i y2,.i y3,.l (.sl 42 .sp) y4,.l .gr y5,.i y6,.i y7,.l (.sl 42 .sp) y8,.l .gr y9,.i aa,.i ab,.l (.sl 42 .sp) ac,.l .gr y13,.i af,.i ah,.l (.sl 42 .sp) ai,.l .gr aj,.l .gr ak,.l .gr am,.i y20,.i y21,.l (.sl 42 .sp) y22,.l .gr y23,.i y24,.i y25,.l (.sl 42 .sp) ao,.l .gr y27])),(fun y1 y2 y3 y4 y5 y6 y7 y8 y9 aa ab ac y13 af ah ai aj ak am y20 y21 y22 y23 y24 y25 ao=>K .ret ((⟨nOs 6++[.one (.lb false)]++nOs 144,[.box 25 [.i .i64,.i .i64,.s (.sl 42 .sp),.s .gr],.box 25 [.i .i64,.i .i64,.s (.sl 42 .sp),.s .gr],.box 25 [.i .i64,.i .i64,.s (.sl 42 .sp),.s .gr],.box 25 [.i .i64,.i .i64,.s (.sl 42 .sp),.s .gr],.box 25 [.li .i64 0,.li .i64 0,.lo 37 (.sl 42 .sp),.s .gr],.box 25 [.li .i64 0,.li .i64 0,.lo 37 (.sl 42 .sp),.s .gr],.box 25 [.i .i64,.i .i64,.s (.sl 42 .sp),.s .gr],.box 25 [.i .i64,.i .i64,.s (.sl 42 .sp),.s .gr]]⟩:PS).mk' [.i y1,.i y2,.l (.sl 42 .sp) y3,.l .gr y4,.i y5,.i y6,.l (.sl 42 .sp) y7,.l .gr y8,.i y9,.i aa,.l (.sl 42 .sp) ab,.l .gr ac,.i y13,.i af,.l (.sl 42 .sp) ah,.l .gr ai,.l .gr aj,.l .gr ak,.i am,.i y20,.l (.sl 42 .sp) y21,.l .gr y22,.i y23,.i y24,.l (.sl 42 .sp) y25,.l .gr ao])))
noncomputable def dw.l1.g {γ:Type} (YK:HdK γ) (k:Nat) (K:dS→St→Option γ):List Lf→Option γ
  | [.b v1,.i v2,.i v3,.l (.sl 42 .sp) v4,.l .gr v5,.i v6,.i v7,.l (.sl 42 .sp) v8,.l .gr v9]=>let q:=dw.l1.c YK K;dw.l1 q.1 q.2.1 q.2.2 k v1 v2 v3 v4 v5 v6 v7 v8 v9
  | _=>none
noncomputable def dw.l0.p:PS:=⟨[nO,nO,.one (.i .i16),.one (.bp 0 0),.one (.bp 1 0)]++nOs 146,[.box 25 [.i .i64,.i .i64,.s (.sl 42 .sp),.s .gr],.box 25 [.i .i64,.i .i64,.s (.sl 42 .sp),.s .gr]]⟩
noncomputable def dw.l0.c {γ:Type} (YK:HdK γ) (K:dS→St→Option γ)  := ((fun y1 y2 y3 y4 y5 y6 y7 y8=>K .ret ((⟨nOs 6++[.one (.lb false)]++nOs 144,[.box 25 [.i .i64,.i .i64,.s (.sl 42 .sp),.s .gr],.box 25 [.i .i64,.i .i64,.s (.sl 42 .sp),.s .gr]]⟩:PS).mk' [.i y1,.i y2,.l (.sl 42 .sp) y3,.l .gr y4,.i y5,.i y6,.l (.sl 42 .sp) y7,.l .gr y8])),(fun y1 y2 y3 y4 y5 y6 y7 y8 y9 aa ab ac y13 af ah ai=>K .ret ((⟨nOs 6++[.one (.lb false)]++nOs 144,[.box 25 [.i .i64,.i .i64,.s (.sl 42 .sp),.s .gr],.box 25 [.i .i64,.i .i64,.s (.sl 42 .sp),.s .gr],.box 25 [.i .i64,.i .i64,.s (.sl 42 .sp),.s .gr],.box 25 [.i .i64,.i .i64,.s (.sl 42 .sp),.s .gr]]⟩:PS).mk' [.i y1,.i y2,.l (.sl 42 .sp) y3,.l .gr y4,.i y5,.i y6,.l (.sl 42 .sp) y7,.l .gr y8,.i y9,.i aa,.l (.sl 42 .sp) ab,.l .gr ac,.i y13,.i af,.l (.sl 42 .sp) ah,.l .gr ai])),(fun y1 y2 y3 y4 y5 y6 y7 y8 y9 aa ab ac y13 af ah ai aj ak am y20 y21 y22 y23 y24 y25 ao y27=>K .ret ((⟨nOs 6++[.one (.b)]++nOs 144,[.box 25 [.i .i64,.i .i64,.s (.sl 42 .sp),.s .gr],.box 25 [.i .i64,.i .i64,.s (.sl 42 .sp),.s .gr],.box 25 [.i .i64,.i .i64,.s (.sl 42 .sp),.s .gr],.box 25 [.i .i64,.i .i64,.s (.sl 42 .sp),.s .gr],.box 25 [.li .i64 0,.li .i64 0,.lo 37 (.sl 42 .sp),.s .gr],.box 25 [.li .i64 0,.li .i64 0,.lo 37 (.sl 42 .sp),.s .gr],.box 25 [.i .i64,.i .i64,.s (.sl 42 .sp),.s .gr],.box 25 [.i .i64,.i .i64,.s (.sl 42 .sp),.s .gr]]⟩:PS).mk' [.b y1,.i y2,.i y3,.l (.sl 42 .sp) y4,.l .gr y5,.i y6,.i y7,.l (.sl 42 .sp) y8,.l .gr y9,.i aa,.i ab,.l (.sl 42 .sp) ac,.l .gr y13,.i af,.i ah,.l (.sl 42 .sp) ai,.l .gr aj,.l .gr ak,.l .gr am,.i y20,.i y21,.l (.sl 42 .sp) y22,.l .gr y23,.i y24,.i y25,.l (.sl 42 .sp) ao,.l .gr y27])),(fun y1 y2 y3 y4 y5 y6 y7 y8 y9 aa ab ac y13 af ah ai aj ak am y20 y21 y22 y23 y24 y25 ao=>K .ret ((⟨nOs 6++[.one (.lb false)]++nOs 144,[.box 25 [.i .i64,.i .i64,.s (.sl 42 .sp),.s .gr],.box 25 [.i .i64,.i .i64,.s (.sl 42 .sp),.s .gr],.box 25 [.i .i64,.i .i64,.s (.sl 42 .sp),.s .gr],.box 25 [.i .i64,.i .i64,.s (.sl 42 .sp),.s .gr],.box 25 [.li .i64 0,.li .i64 0,.lo 37 (.sl 42 .sp),.s .gr],.box 25 [.li .i64 0,.li .i64 0,.lo 37 (.sl 42 .sp),.s .gr],.box 25 [.i .i64,.i .i64,.s (.sl 42 .sp),.s .gr],.box 25 [.i .i64,.i .i64,.s (.sl 42 .sp),.s .gr]]⟩:PS).mk' [.i y1,.i y2,.l (.sl 42 .sp) y3,.l .gr y4,.i y5,.i y6,.l (.sl 42 .sp) y7,.l .gr y8,.i y9,.i aa,.l (.sl 42 .sp) ab,.l .gr ac,.i y13,.i af,.l (.sl 42 .sp) ah,.l .gr ai,.l .gr aj,.l .gr ak,.i am,.i y20,.l (.sl 42 .sp) y21,.l .gr y22,.i y23,.i y24,.l (.sl 42 .sp) y25,.l .gr ao])))
noncomputable def dw.l0.g {γ:Type} (YK:HdK γ) (k:Nat) (K:dS→St→Option γ):List Lf→Option γ
  | [.i v1,.i v2,.i v3,.l (.sl 42 .sp) v4,.l .gr v5,.i v6,.i v7,.l (.sl 42 .sp) v8,.l .gr v9]=>let q:=dw.l0.c YK K;dw.l0 q.1 q.2.1 q.2.2.1 q.2.2.2 k v1 v2 v3 v4 v5 v6 v7 v8 v9
  | _=>none
noncomputable def dw.C {γ:Type}:Ctx γ:=mkC (fun k=>mkE [(8,dx.m k),(9,eX.m k),(11,dD.m k),(12,dM.m k),(13,dJ.m k),(14,cZ.m k),(16,iJ.m k),(19,fK.m k),(20,gq.m k)] []) [(5,Tryz.f5)] [(5,mkA [] [(1000010,[2,3,4]),(1000025,[3,4,11]),(1000037,[])] [(1000010,[6]),(1000025,[6]),(1000037,[6])] [])] [⟨0,5,1000037,gY [(dw.l2.p,dw.l2.g)]⟩,⟨0,5,1000025,gY [(dw.l1.p,dw.l1.g)]⟩,⟨0,5,1000010,gY [(dw.l0.p,dw.l0.g)]⟩] []
theorem dw.l2.eq {γ:Type} (YK:HdK γ) (rl:Option Nat) (K:dS→St→Option γ) (k:Nat) (v1:Int) (v2:Int) (v3:List (List P.S42)) (v4:List P.S44) (v5:Int) (v6:Int) (v7:List (List P.S42)) (v8:List P.S44) (v9:Int) (v10:Int) (v11:List (List P.S42)) (v12:List P.S44) (v13:Int) (v14:Int) (v15:List (List P.S42)) (v16:List P.S44):dw.C.lK 0 5 1000037 Tryz.f5 YK rl 4 k (dw.l2.p.mk' [.i v1,.i v2,.l (.sl 42 .sp) v3,.l .gr v4,.i v5,.i v6,.l (.sl 42 .sp) v7,.l .gr v8,.i v9,.i v10,.l (.sl 42 .sp) v11,.l .gr v12,.i v13,.i v14,.l (.sl 42 .sp) v15,.l .gr v16]) K=dw.l2.g YK k K [.i v1,.i v2,.l (.sl 42 .sp) v3,.l .gr v4,.i v5,.i v6,.l (.sl 42 .sp) v7,.l .gr v8,.i v9,.i v10,.l (.sl 42 .sp) v11,.l .gr v12,.i v13,.i v14,.l (.sl 42 .sp) v15,.l .gr v16]:=by kernel_rfl
theorem dw.l1.eq {γ:Type} (YK:HdK γ) (rl:Option Nat) (K:dS→St→Option γ) (k:Nat) (v1:Bool) (v2:Int) (v3:Int) (v4:List (List P.S42)) (v5:List P.S44) (v6:Int) (v7:Int) (v8:List (List P.S42)) (v9:List P.S44):dw.C.lK 0 5 1000025 Tryz.f5 YK rl 2 k (dw.l1.p.mk' [.b v1,.i v2,.i v3,.l (.sl 42 .sp) v4,.l .gr v5,.i v6,.i v7,.l (.sl 42 .sp) v8,.l .gr v9]) K=dw.l1.g YK k K [.b v1,.i v2,.i v3,.l (.sl 42 .sp) v4,.l .gr v5,.i v6,.i v7,.l (.sl 42 .sp) v8,.l .gr v9]:=by kernel_rfl
theorem dw.l0.eq {γ:Type} (YK:HdK γ) (rl:Option Nat) (K:dS→St→Option γ) (k:Nat) (v1:Int) (v2:Int) (v3:Int) (v4:List (List P.S42)) (v5:List P.S44) (v6:Int) (v7:Int) (v8:List (List P.S42)) (v9:List P.S44):dw.C.lK 0 5 1000010 Tryz.f5 YK rl 2 k (dw.l0.p.mk' [.i v1,.i v2,.i v3,.l (.sl 42 .sp) v4,.l .gr v5,.i v6,.i v7,.l (.sl 42 .sp) v8,.l .gr v9]) K=dw.l0.g YK k K [.i v1,.i v2,.i v3,.l (.sl 42 .sp) v4,.l .gr v5,.i v6,.i v7,.l (.sl 42 .sp) v8,.l .gr v9]:=by kernel_rfl
theorem dw.fE {γ:Type}:(dw.C (γ:=γ)).Ok:=⟨(all_cons (fun k=>by kernel_rfl) all_nil),(all_cons (by kernel_rfl) all_nil),all_nil⟩
theorem dw.e0 {γ:Type}:gy (dw.C (γ:=γ)) ⟨0,5,1000037,gY [(dw.l2.p,dw.l2.g)]⟩:=dw.fE.jW Tryz.f5 [] (by kernel_rfl) (by kernel_rfl) (by kernel_rfl) (all_cons iE (all_cons iE (all_cons iE all_nil))) (all_cons (fun YK rl k ls K v hv=>(show dw.l2.g YK k K ls=some v→_ from fun hv=>by
  unfold dw.l2.g at hv;split at hv
  · exact (dw.l2.eq YK rl K k _ _ _ _ _ _ _ _ _ _ _ _ _ _ _ _).trans hv
  · cases hv) hv) all_nil)
theorem dw.e1 {γ:Type}:gy (dw.C (γ:=γ)) ⟨0,5,1000025,gY [(dw.l1.p,dw.l1.g)]⟩:=dw.fE.jW Tryz.f5 [1000037] (by kernel_rfl) (by kernel_rfl) (by kernel_rfl) (all_cons (fun _=>dw.e0) (all_cons iE (all_cons iE all_nil))) (all_cons (fun YK rl k ls K v hv=>(show dw.l1.g YK k K ls=some v→_ from fun hv=>by
  unfold dw.l1.g at hv;split at hv
  · exact (dw.l1.eq YK rl K k _ _ _ _ _ _ _ _ _).trans hv
  · cases hv) hv) all_nil)
theorem dw.e2 {γ:Type}:gy (dw.C (γ:=γ)) ⟨0,5,1000010,gY [(dw.l0.p,dw.l0.g)]⟩:=dw.fE.jW Tryz.f5 [1000025,1000037] (by kernel_rfl) (by kernel_rfl) (by kernel_rfl) (all_cons (fun _=>dw.e0) (all_cons (fun _=>dw.e1) (all_cons iE all_nil))) (all_cons (fun YK rl k ls K v hv=>(show dw.l0.g YK k K ls=some v→_ from fun hv=>by
  unfold dw.l0.g at hv;split at hv
  · exact (dw.l0.eq YK rl K k _ _ _ _ _ _ _ _ _).trans hv
  · cases hv) hv) all_nil)
theorem dw.ok (k:Nat):iV Tryz.prog 5 (dw.m k).s:=okW dw.fE 0 Tryz.f5 k all_nil (fun k=>all_cons (dx.ok k) (all_cons (eX.ok k) (all_cons (dD.ok k) (all_cons (dM.ok k) (all_cons (dJ.ok k) (all_cons (cZ.ok k) (all_cons (iJ.ok k) (all_cons (fK.ok k) (all_cons (gq.ok k) (all_nil)))))))))) (all_cons ⟨Tryz.func5,by kernel_rfl⟩ all_nil) (all_cons dw.e0 (all_cons dw.e1 (all_cons dw.e2 all_nil))) (by kernel_rfl) (by kernel_rfl) (fun a=>by kernel_rfl)
noncomputable def j6.m (k:Nat):Sm:=iY [(.int .i64),(.int .i64)] [.pl (.int .i64)] (fun a=>j6.f k a.1 a.2.1)
noncomputable def dB.l0.p:PS:=⟨[nO,.one (.bp 3 0),.one (.bp 4 0),.one (.bp 5 0)]++nOs 10++[.one (.s (.sl 42 .sp)),.one (.i .i64),.one (.i .i64)]++nOs 31,[.box 25 [.i .i64,.i .i64,.s (.sl 42 .sp),.s .gr],.box 25 [.li .i64 0,.li .i64 0,.lo 37 (.sl 42 .sp),.lo 44 .gr],.no,.box 25 [.i .i64,.i .i64,.s (.sl 42 .sp),.s .gr],.box 25 [.li .i64 0,.li .i64 0,.lo 37 (.sl 42 .sp),.lo 44 .gr],.box 25 [.i .i64,.i .i64,.mu 37 (.sl 42 .sp),.lm 44 .gr]]⟩
noncomputable def dB.l0.c {γ:Type} (YK:HdK γ) (K:dS→St→Option γ) (c4:Int) (c5:Int) (c6:List (List P.S42)) (c7:List P.S44) (c8:Int) (c9:Int) (c10:List (List P.S42)) (c11:List P.S44) (c12:Int) (c13:Int):=(fun y1=>K (.exit 0) ((⟨[nO,.one (.bp 3 0),.one (.bp 4 0),.one (.bp 5 0)]++nOs 44,[.box 25 [.i .i64,.i .i64,.s (.sl 42 .sp),.s .gr],.box 25 [.li .i64 0,.li .i64 0,.lo 37 (.sl 42 .sp),.lo 44 .gr],.no,.box 25 [.i .i64,.i .i64,.s (.sl 42 .sp),.s .gr],.box 25 [.li .i64 0,.li .i64 0,.lo 37 (.sl 42 .sp),.lo 44 .gr],.box 25 [.i .i64,.i .i64,.mu 37 (.sl 42 .sp),.lm 44 .gr]]⟩:PS).mk' [.i c4,.i c5,.l (.sl 42 .sp) c6,.l .gr c7,.i c8,.i c9,.l (.sl 42 .sp) c10,.l .gr c11,.i c12,.i c13,.l (.sl 42 .sp) y1]))
noncomputable def dB.l0.g {γ:Type} (YK:HdK γ) (k:Nat) (K:dS→St→Option γ):List Lf→Option γ
  | [.l (.sl 42 .sp) c1,.i c2,.i v3,.i c4,.i c5,.l (.sl 42 .sp) c6,.l .gr c7,.i c8,.i c9,.l (.sl 42 .sp) c10,.l .gr c11,.i c12,.i c13,.l (.sl 42 .sp) v14]=>dB.l0 (dB.l0.c YK K c4 c5 c6 c7 c8 c9 c10 c11 c12 c13) c1 c2 k v3 v14
  | _=>none
noncomputable def dB.l1.p:PS:=⟨[nO,nO,.one (.bp 4 0),.one (.bp 5 0)]++nOs 25++[.one (.s .gr),.one (.i .i64),.one (.i .i64)]++nOs 16,[.box 25 [.i .i64,.i .i64,.s (.sl 42 .sp),.s .gr],.box 25 [.li .i64 0,.li .i64 0,.lo 37 (.sl 42 .sp),.lo 44 .gr],.no,.box 25 [.i .i64,.i .i64,.s (.sl 42 .sp),.s .gr],.box 25 [.li .i64 0,.li .i64 0,.lo 37 (.sl 42 .sp),.lo 44 .gr],.box 25 [.i .i64,.i .i64,.mu 37 (.sl 42 .sp),.mu 44 .gr]]⟩
noncomputable def dB.l1.c {γ:Type} (YK:HdK γ) (K:dS→St→Option γ) (c4:Int) (c5:Int) (c6:List (List P.S42)) (c7:List P.S44) (c8:Int) (c9:Int) (c10:List (List P.S42)) (c11:List P.S44) (c12:Int) (c13:Int) (c14:List (List P.S42)):=(fun y1=>K (.exit 2) ((⟨[nO,nO,.one (.bp 4 0),.one (.bp 5 0)]++nOs 44,[.box 25 [.i .i64,.i .i64,.s (.sl 42 .sp),.s .gr],.box 25 [.li .i64 0,.li .i64 0,.lo 37 (.sl 42 .sp),.lo 44 .gr],.no,.box 25 [.i .i64,.i .i64,.s (.sl 42 .sp),.s .gr],.box 25 [.li .i64 0,.li .i64 0,.lo 37 (.sl 42 .sp),.lo 44 .gr],.box 25 [.i .i64,.i .i64,.mu 37 (.sl 42 .sp),.mu 44 .gr]]⟩:PS).mk' [.i c4,.i c5,.l (.sl 42 .sp) c6,.l .gr c7,.i c8,.i c9,.l (.sl 42 .sp) c10,.l .gr c11,.i c12,.i c13,.l (.sl 42 .sp) c14,.l .gr y1]))
noncomputable def dB.l1.g {γ:Type} (YK:HdK γ) (k:Nat) (K:dS→St→Option γ):List Lf→Option γ
  | [.l .gr c1,.i c2,.i v3,.i c4,.i c5,.l (.sl 42 .sp) c6,.l .gr c7,.i c8,.i c9,.l (.sl 42 .sp) c10,.l .gr c11,.i c12,.i c13,.l (.sl 42 .sp) c14,.l .gr v15]=>dB.l1 (dB.l1.c YK K c4 c5 c6 c7 c8 c9 c10 c11 c12 c13 c14) c1 c2 k v3 v15
  | _=>none
noncomputable def dB.l2.p:PS:=⟨[nO,.one (.i .u8),.one (.i .i8)]++nOs 3++[.one (.bp 1 0),nO,.one (.bp 2 0)]++nOs 8++[.one (.i .i64),.one (.i .i64)]++nOs 52,[.box 25 [.i .i64,.i .i64,.s (.sl 42 .sp),.s .gr],.box 25 [.li .i64 0,.li .i64 0,.lo 37 (.sl 42 .sp),.lo 44 .gr],.box 25 [.i .i64,.i .i64,.ar 3 (.sl 42 .sp),.mu 44 .gr],.arr 37 (.sl 42 .sp)]⟩
noncomputable def dB.l2.c {γ:Type} (YK:HdK γ) (K:dS→St→Option γ) (c1:Int) (c2:Int) (c5:Int) (c6:Int) (c7:List (List P.S42)) (c8:List P.S44) (c9:Int) (c10:Int) (c11:Nat) (c12:List P.S44):=(fun y1=>K (.exit 0) ((⟨[nO,.one (.i .u8),.one (.i .i8)]++nOs 3++[.one (.bp 1 0),nO,.one (.bp 2 0)]++nOs 62,[.box 25 [.i .i64,.i .i64,.s (.sl 42 .sp),.s .gr],.box 25 [.li .i64 0,.li .i64 0,.lo 37 (.sl 42 .sp),.lo 44 .gr],.box 25 [.i .i64,.i .i64,.ar 3 (.sl 42 .sp),.mu 44 .gr],.arr 37 (.sl 42 .sp)]⟩:PS).mk' [.i c1,.i c2,.i c5,.i c6,.l (.sl 42 .sp) c7,.l .gr c8,.i c9,.i c10,.n c11,.l .gr c12,.l (.sl 42 .sp) y1]))
noncomputable def dB.l2.g {γ:Type} (YK:HdK γ) (k:Nat) (K:dS→St→Option γ):List Lf→Option γ
  | [.i c1,.i c2,.i c3,.i v4,.i c5,.i c6,.l (.sl 42 .sp) c7,.l .gr c8,.i c9,.i c10,.n c11,.l .gr c12,.l (.sl 42 .sp) v13]=>dB.l2 (dB.l2.c YK K c1 c2 c5 c6 c7 c8 c9 c10 c11 c12) c1 c3 c11 k v4 v13
  | _=>none
noncomputable def dB.l3.p:PS:=⟨[nO,.one (.i .u8),.one (.i .i8)]++nOs 3++[.one (.bp 1 0),nO,.one (.bp 2 0)]++nOs 24++[.one (.ar 4 .gr),.one (.i .i64),.one (.i .i64)]++nOs 35,[.box 25 [.i .i64,.i .i64,.s (.sl 42 .sp),.s .gr],.box 25 [.li .i64 0,.li .i64 0,.lo 37 (.sl 42 .sp),.lo 44 .gr],.box 25 [.i .i64,.i .i64,.ar 3 (.sl 42 .sp),.ar 4 .gr],.arr 37 (.sl 42 .sp),.arr 44 .gr]⟩
noncomputable def dB.l3.c {γ:Type} (YK:HdK γ) (K:dS→St→Option γ) (c6:Int) (c7:Int) (c8:List (List P.S42)) (c9:List P.S44) (c10:Int) (c11:Int) (c12:Nat) (c13:Nat) (c14:List (List P.S42)):=(fun y1=>K (.exit 2) ((⟨nOs 6++[.one (.bp 1 0),nO,.one (.bp 2 0)]++nOs 62,[.box 25 [.i .i64,.i .i64,.s (.sl 42 .sp),.s .gr],.box 25 [.li .i64 0,.li .i64 0,.lo 37 (.sl 42 .sp),.lo 44 .gr],.box 25 [.i .i64,.i .i64,.ar 3 (.sl 42 .sp),.ar 4 .gr],.arr 37 (.sl 42 .sp),.arr 44 .gr]⟩:PS).mk' [.i c6,.i c7,.l (.sl 42 .sp) c8,.l .gr c9,.i c10,.i c11,.n c12,.n c13,.l (.sl 42 .sp) c14,.l .gr y1]))
noncomputable def dB.l3.g {γ:Type} (YK:HdK γ) (k:Nat) (K:dS→St→Option γ):List Lf→Option γ
  | [.i c1,.i c2,.n c3,.i c4,.i v5,.i c6,.i c7,.l (.sl 42 .sp) c8,.l .gr c9,.i c10,.i c11,.n c12,.n c13,.l (.sl 42 .sp) c14,.l .gr v15]=>dB.l3 (dB.l3.c YK K c6 c7 c8 c9 c10 c11 c12 c13 c14) c1 c2 c3 c4 c11 c13 k v5 v15
  | _=>none
noncomputable def dB.C {γ:Type}:Ctx γ:=mkC (fun k=>mkE [(39,jP.m k),(57,j6.m k),(58,dI.m k)] []) [(21,Tryz.f21),(15,Tryz.f15)] [(21,mkA [] [(0,[1,2,6,8,17,18]),(2,[1,2,6,8,33,34,35])] [(0,[1,2,6,8]),(2,[6,8])] [(2,[.op (.bx 8 2)],[]),(8,[.op (.bx 8 3)],[]),(17,[.cl (.bx 8 2),.fz (.bx 8 2),.cl (.bx 8 3),.fz (.bx 8 3)],[])]),(15,mkA [21,36,47] [(0,[1,2,3,14,15,16]),(2,[2,3,29,30,31])] [(0,[1,2,3]),(2,[2,3])] [(1,[],[.mu (.bx 3 2),.mu (.bx 3 3)])])] [⟨0,15,0,gY [(dB.l0.p,dB.l0.g)]⟩,⟨0,15,2,gY [(dB.l1.p,dB.l1.g)]⟩,⟨1,21,0,gY [(dB.l2.p,dB.l2.g)]⟩,⟨1,21,2,gY [(dB.l3.p,dB.l3.g)]⟩] []
theorem dB.l0.eq {γ:Type} (YK:HdK γ) (rl:Option Nat) (K:dS→St→Option γ) (c1:List (List P.S42)) (c2:Int) (c4:Int) (c5:Int) (c6:List (List P.S42)) (c7:List P.S44) (c8:Int) (c9:Int) (c10:List (List P.S42)) (c11:List P.S44) (c12:Int) (c13:Int):∀ k:Nat,(fun (v3:Int) (v14:List (List P.S42))=>dB.C.lK 0 15 0 Tryz.f15 YK rl 6 k (dB.l0.p.mk' [.l (.sl 42 .sp) c1,.i c2,.i v3,.i c4,.i c5,.l (.sl 42 .sp) c6,.l .gr c7,.i c8,.i c9,.l (.sl 42 .sp) c10,.l .gr c11,.i c12,.i c13,.l (.sl 42 .sp) v14]) K)=(fun (v3:Int) (v14:List (List P.S42))=>dB.l0.g YK k K [.l (.sl 42 .sp) c1,.i c2,.i v3,.i c4,.i c5,.l (.sl 42 .sp) c6,.l .gr c7,.i c8,.i c9,.l (.sl 42 .sp) c10,.l .gr c11,.i c12,.i c13,.l (.sl 42 .sp) v14]):=eZ (fun R k v3 v14=>dB.l0T (dB.l0.c YK K c4 c5 c6 c7 c8 c9 c10 c11 c12 c13) c1 c2 R k v3 v14) (by kernel_rfl) (fun k=>by kernel_rfl) (fun k=>by kernel_rfl)
theorem dB.l1.eq {γ:Type} (YK:HdK γ) (rl:Option Nat) (K:dS→St→Option γ) (c1:List P.S44) (c2:Int) (c4:Int) (c5:Int) (c6:List (List P.S42)) (c7:List P.S44) (c8:Int) (c9:Int) (c10:List (List P.S42)) (c11:List P.S44) (c12:Int) (c13:Int) (c14:List (List P.S42)):∀ k:Nat,(fun (v3:Int) (v15:List P.S44)=>dB.C.lK 0 15 2 Tryz.f15 YK rl 6 k (dB.l1.p.mk' [.l .gr c1,.i c2,.i v3,.i c4,.i c5,.l (.sl 42 .sp) c6,.l .gr c7,.i c8,.i c9,.l (.sl 42 .sp) c10,.l .gr c11,.i c12,.i c13,.l (.sl 42 .sp) c14,.l .gr v15]) K)=(fun (v3:Int) (v15:List P.S44)=>dB.l1.g YK k K [.l .gr c1,.i c2,.i v3,.i c4,.i c5,.l (.sl 42 .sp) c6,.l .gr c7,.i c8,.i c9,.l (.sl 42 .sp) c10,.l .gr c11,.i c12,.i c13,.l (.sl 42 .sp) c14,.l .gr v15]):=eZ (fun R k v3 v15=>dB.l1T (dB.l1.c YK K c4 c5 c6 c7 c8 c9 c10 c11 c12 c13 c14) c1 c2 R k v3 v15) (by kernel_rfl) (fun k=>by kernel_rfl) (fun k=>by kernel_rfl)
theorem dB.l2.eq {γ:Type} (YK:HdK γ) (rl:Option Nat) (K:dS→St→Option γ) (c1:Int) (c2:Int) (c3:Int) (c5:Int) (c6:Int) (c7:List (List P.S42)) (c8:List P.S44) (c9:Int) (c10:Int) (c11:Nat) (c12:List P.S44):∀ k:Nat,(fun (v4:Int) (v13:List (List P.S42))=>dB.C.lK 1 21 0 Tryz.f21 YK rl 4 k (dB.l2.p.mk' [.i c1,.i c2,.i c3,.i v4,.i c5,.i c6,.l (.sl 42 .sp) c7,.l .gr c8,.i c9,.i c10,.n c11,.l .gr c12,.l (.sl 42 .sp) v13]) K)=(fun (v4:Int) (v13:List (List P.S42))=>dB.l2.g YK k K [.i c1,.i c2,.i c3,.i v4,.i c5,.i c6,.l (.sl 42 .sp) c7,.l .gr c8,.i c9,.i c10,.n c11,.l .gr c12,.l (.sl 42 .sp) v13]):=eZ (fun R k v4 v13=>dB.l2T (dB.l2.c YK K c1 c2 c5 c6 c7 c8 c9 c10 c11 c12) c1 c3 c11 R k v4 v13) (by kernel_rfl) (fun k=>by kernel_rfl) (fun k=>by kernel_rfl)
theorem dB.l3.eq {γ:Type} (YK:HdK γ) (rl:Option Nat) (K:dS→St→Option γ) (c1:Int) (c2:Int) (c3:Nat) (c4:Int) (c6:Int) (c7:Int) (c8:List (List P.S42)) (c9:List P.S44) (c10:Int) (c11:Int) (c12:Nat) (c13:Nat) (c14:List (List P.S42)):∀ k:Nat,(fun (v5:Int) (v15:List P.S44)=>dB.C.lK 1 21 2 Tryz.f21 YK rl 5 k (dB.l3.p.mk' [.i c1,.i c2,.n c3,.i c4,.i v5,.i c6,.i c7,.l (.sl 42 .sp) c8,.l .gr c9,.i c10,.i c11,.n c12,.n c13,.l (.sl 42 .sp) c14,.l .gr v15]) K)=(fun (v5:Int) (v15:List P.S44)=>dB.l3.g YK k K [.i c1,.i c2,.n c3,.i c4,.i v5,.i c6,.i c7,.l (.sl 42 .sp) c8,.l .gr c9,.i c10,.i c11,.n c12,.n c13,.l (.sl 42 .sp) c14,.l .gr v15]):=eZ (fun R k v5 v15=>dB.l3T (dB.l3.c YK K c6 c7 c8 c9 c10 c11 c12 c13 c14) c1 c2 c3 c4 c11 c13 R k v5 v15) (by kernel_rfl) (fun k=>by kernel_rfl) (fun k=>by kernel_rfl)
noncomputable def aaQ.m (k:Nat):Sm:=iY [(.sl 42 .sp)] [.pl .bool] (fun a=>aaQ.f k a.1)
noncomputable def aaP.l0.p:PS:=⟨[.one (.s (.sl 42 .sp)),.one (.fn 113 [])]++nOs 5++[.one (.i .i64),.one (.i .i64)]++nOs 10,[.box 25 [.i .i64,.i .i64,.s (.sl 42 .sp),.s .gr]]⟩
noncomputable def aaP.l0.c {γ:Type} (YK:HdK γ) (K:dS→St→Option γ) (c4:Int) (c5:Int) (c6:List (List P.S42)) (c7:List P.S44):=((fun y1=>K .ret ((⟨nOs 4++[.one (.i .i64)]++nOs 14,[.box 25 [.i .i64,.i .i64,.s (.sl 42 .sp),.s .gr]]⟩:PS).mk' [.i y1,.i c4,.i c5,.l (.sl 42 .sp) c6,.l .gr c7])),(K (.exit 0) ((⟨nOs 19,[.box 25 [.i .i64,.i .i64,.s (.sl 42 .sp),.s .gr]]⟩:PS).mk' [.i c4,.i c5,.l (.sl 42 .sp) c6,.l .gr c7])))
noncomputable def aaP.l0.g {γ:Type} (YK:HdK γ) (k:Nat) (K:dS→St→Option γ):List Lf→Option γ
  | [.l (.sl 42 .sp) c1,.i c2,.i v3,.i c4,.i c5,.l (.sl 42 .sp) c6,.l .gr c7]=>let q:=aaP.l0.c YK K c4 c5 c6 c7;aaP.l0 q.1 q.2 c1 c2 k v3
  | _=>none
noncomputable def aaP.C {γ:Type}:Ctx γ:=mkC (fun k=>mkE [(113,aaQ.m k)] []) [(59,Tryz.f59),(112,Tryz.f112),(150,Tryz.f150)] [(59,mkA [] [] [] []),(112,mkA [] [] [] []),(150,mkA [] [(0,[0,1,7,8])] [(0,[4])] [])] [⟨0,150,0,gY [(aaP.l0.p,aaP.l0.g)]⟩] []
theorem aaP.l0.eq {γ:Type} (YK:HdK γ) (rl:Option Nat) (K:dS→St→Option γ) (c1:List (List P.S42)) (c2:Int) (c4:Int) (c5:Int) (c6:List (List P.S42)) (c7:List P.S44):∀ k:Nat,(fun (v3:Int)=>aaP.C.lK 0 150 0 Tryz.f150 YK rl 1 k (aaP.l0.p.mk' [.l (.sl 42 .sp) c1,.i c2,.i v3,.i c4,.i c5,.l (.sl 42 .sp) c6,.l .gr c7]) K)=(fun (v3:Int)=>aaP.l0.g YK k K [.l (.sl 42 .sp) c1,.i c2,.i v3,.i c4,.i c5,.l (.sl 42 .sp) c6,.l .gr c7]):=eZ (fun R k v3=>aaP.l0T (aaP.l0.c YK K c4 c5 c6 c7).1 (aaP.l0.c YK K c4 c5 c6 c7).2 c1 c2 R k v3) (by kernel_rfl) (fun k=>by kernel_rfl) (fun k=>by kernel_rfl)
noncomputable def uX.l0.p:PS:=⟨[nO,nO,.one (.bp 0 0),.one (.bp 1 0)]++nOs 5++[.one (.b)]++nOs 28++[.one (.i .i64),.one (.i .i64)]++nOs 31,[.box 25 [.i .i64,.i .i64,.s (.sl 42 .sp),.s .gr],.box 25 [.i .i64,.i .i64,.s (.sl 42 .sp),.s .gr]]⟩
noncomputable def uX.l0.c {γ:Type} (YK:HdK γ) (K:dS→St→Option γ) (c4:Int) (c5:Int) (c6:List (List P.S42)) (c7:List P.S44) (c8:Int) (c9:Int) (c10:List (List P.S42)) (c11:List P.S44):=((fun y1 y2=>K .ret ((⟨nOs 4++[.one (.lb false),.one (.i .i64)]++nOs 3++[.one (.b)]++nOs 61,[.box 25 [.i .i64,.i .i64,.s (.sl 42 .sp),.s .gr],.box 25 [.i .i64,.i .i64,.s (.sl 42 .sp),.s .gr]]⟩:PS).mk' [.i y1,.b y2,.i c4,.i c5,.l (.sl 42 .sp) c6,.l .gr c7,.i c8,.i c9,.l (.sl 42 .sp) c10,.l .gr c11])),(fun y1=>K (.exit 0) ((⟨nOs 9++[.one (.b)]++nOs 61,[.box 25 [.i .i64,.i .i64,.s (.sl 42 .sp),.s .gr],.box 25 [.i .i64,.i .i64,.s (.sl 42 .sp),.s .gr]]⟩:PS).mk' [.b y1,.i c4,.i c5,.l (.sl 42 .sp) c6,.l .gr c7,.i c8,.i c9,.l (.sl 42 .sp) c10,.l .gr c11])))
noncomputable def uX.l0.g {γ:Type} (YK:HdK γ) (k:Nat) (K:dS→St→Option γ):List Lf→Option γ
  | [.b v1,.i c2,.i v3,.i c4,.i c5,.l (.sl 42 .sp) c6,.l .gr c7,.i c8,.i c9,.l (.sl 42 .sp) c10,.l .gr c11]=>let q:=uX.l0.c YK K c4 c5 c6 c7 c8 c9 c10 c11;uX.l0 q.1 q.2 c2 c4 c5 c6 c7 c8 c9 c10 c11 k v1 v3
  | _=>none
noncomputable def uX.C {γ:Type}:Ctx γ:=mkC (fun k=>mkE [(20,gq.m k),(78,dV.m k),(80,gK.m k)] []) [(60,Tryz.f60)] [(60,mkA [] [(0,[2,3,9,38,39])] [(0,[4,5,9])] [])] [⟨0,60,0,gY [(uX.l0.p,uX.l0.g)]⟩] []
theorem uX.l0.eq {γ:Type} (YK:HdK γ) (rl:Option Nat) (K:dS→St→Option γ) (c2:Int) (c4:Int) (c5:Int) (c6:List (List P.S42)) (c7:List P.S44) (c8:Int) (c9:Int) (c10:List (List P.S42)) (c11:List P.S44):∀ k:Nat,(fun (v1:Bool) (v3:Int)=>uX.C.lK 0 60 0 Tryz.f60 YK rl 2 k (uX.l0.p.mk' [.b v1,.i c2,.i v3,.i c4,.i c5,.l (.sl 42 .sp) c6,.l .gr c7,.i c8,.i c9,.l (.sl 42 .sp) c10,.l .gr c11]) K)=(fun (v1:Bool) (v3:Int)=>uX.l0.g YK k K [.b v1,.i c2,.i v3,.i c4,.i c5,.l (.sl 42 .sp) c6,.l .gr c7,.i c8,.i c9,.l (.sl 42 .sp) c10,.l .gr c11]):=eZ (fun R k v1 v3=>uX.l0T (uX.l0.c YK K c4 c5 c6 c7 c8 c9 c10 c11).1 (uX.l0.c YK K c4 c5 c6 c7 c8 c9 c10 c11).2 c2 c4 c5 c6 c7 c8 c9 c10 c11 R k v1 v3) (by kernel_rfl) (fun k=>by kernel_rfl) (fun k=>by kernel_rfl)
end Go.Proofs.YtcomnjodjijcmaaGreat.R
namespace Go.Proofs.YtcomnjodjijcmaaGreat.M
noncomputable section
set_option linter.unusedVariables false
set_option linter.unusedSimpArgs false
open Go.RowKit Go.Proofs.YtcomnjodjijcmaaGreatW.dA Go.Proofs.YtcomnjodjijcmaaGreatW.dW
def gh0 (W:World):Gh:={ ow:=fun _=>none,pr:=fun b _=>b<W.heap.size,bx:=fun _=>0,lr:=fun _=>default,lv:=fun _=>False,av:=fun _=>undef }
theorem cp0 {W:World} {a:Addr} {v:Value} (h:W.cell? a=some v):jZ (gh0 W) W a v:=⟨h,by
  show a.block<W.heap.size;unfold World.cell? at h;cases hb:W.heap[a.block]? with
  | none=>rw [hb] at h;cases h
  | some _=>exact (Array.getElem?_eq_some_iff.1 hb).1⟩
theorem row0 {α:Type} {R R':α→List Value→Prop} {sz n:Nat} (hz:0<sz) {W:World} (hR:∀ x cs,R x cs→R' x cs) {A:Option Addr} {xs:List α} (h:j4 R sz W A n xs):abv R' sz (jZ (gh0 W) W) A xs:=fun i x hx=>by
  obtain ⟨hl,_,h⟩:=h;have hi:0<n:=by have:=(List.getElem?_eq_some_iff.1 hx).1;omega
  obtain ⟨ad,rfl,h2⟩:=h hi;obtain ⟨c,hc,hr,hcell⟩:=h2 i x hx;have hs:ad.spot=none:=by
    obtain ⟨c0,hc0,_,hcell0⟩:=h2 0 _ (List.getElem?_eq_getElem (by omega));have:=hcell0 0 (c0[0]'(by omega)) (by simp);rw [Nat.zero_mul] at this;exact oQ this
  obtain ⟨b,o,s⟩:=ad;obtain rfl:s=none:=hs;refine ⟨b,o,c,rfl,hR _ _ hr,hc,fun j v hv => ?_⟩;have:=hcell j v hv;rw [Addr.add_mid] at this;exact cp0 this
theorem sl0 {α:Type} {R R':α→List Value→Prop} {sz c:Nat} (hz:0<sz) {W:World} (hR:∀ x cs,R x cs→R' x cs) {A:Option Addr} {xs:List α} (hc:xs.length≤c) (h:j4 R sz W A xs.length xs):SlR R' sz (jZ (gh0 W) W) xs (.slice A xs.length c):=⟨A,c,rfl,hc,row0 hz hR h⟩
theorem fm0 {W:World} (p c:Int) {A2:Option Addr} {c2:Nat} {core:List (List P.S42)} {A3:Option Addr} {c3:Nat} {odd:List P.S44} (h2:Kd.C (Kd.slice 42 P.k42) W A2 core.length core) (l2:core.length≤c2) (h3:Kd.C P.k44 W A3 odd.length odd) (l3:odd.length≤c3) :
    Ty.fm.R (jZ (gh0 W) W) ⟨p,c,core,odd⟩ [.int .i64 p,.int .i64 c,.slice A2 core.length c2,.slice A3 odd.length c3] :=
  ⟨_,_,rfl,sl0 (by decide) (fun x cs h=>by
    obtain ⟨A,k,rfl,hl,hk⟩:=h;exact ⟨_,rfl,sl0 (by decide) (fun x cs h=>P.wK h) hl hk⟩) l2 h2,sl0 (by decide) (fun x cs h=>by
    obtain ⟨A,k,rfl,hl,hk⟩:=P.abI h;exact ⟨_,rfl,sl0 (by decide) (fun x cs h=>P.wK h) hl hk⟩) l3 h3⟩
def ad4 (W:World):(ts:List Ty)→l7 ts→List Value→Prop
  | [],_,[]=>True
  | t :: ts,a,v :: vs=>(∃ ws,t.R (jZ (gh0 W) W) a.1 ws∧VW t ws v)∧ad4 W ts a.2 vs
  | _,_,_=>False
theorem ae5 {W:World}:∀ {ts:List Ty} {a:l7 ts} {vs:List Value},ad4 W ts a vs→(jG ts a).length=vs.length∧∀ (i:Nat) (x:AV) (v:Value),(jG ts a)[i]? = some x→vs[i]? = some v→∀ fr' i',AVR 0 (gh0 W) W fr' i' x v
  | [],_,[],_=>⟨rfl,fun i x v hx=>by simp [jG] at hx⟩
  | [],_,_ :: _,h=>h.elim
  | _ :: _,_,[],h=>h.elim
  | t :: ts,a,v :: vs,⟨⟨ws,h1,h2⟩,h3⟩=>by
    obtain ⟨q1,q2⟩:=ae5 h3;refine ⟨by simp [jG,q1],fun i x u hx hu fr' i' => ?_⟩;cases i with
    | zero =>
      simp [jG] at hx hu
      subst hx;subst hu;exact adQ _ t a.1 h1 h2
    | succ i=>exact q2 i x u (by simpa [jG] using hx) (by simpa using hu) fr' i'
theorem Ty.of_cells:(t:Ty)→(x:t.T)→t.of (t.cells x)=some x
  | .int k,x=>by simp [Ty.of,Ty.cells]
  | .bool,x=>rfl
  | .str,x=>rfl
  | .sp,x=>rfl
  | .gr,x=>by simp [Ty.of,Ty.cells,Cell.asL]
  | .fm,x=>by simp [Ty.of,Ty.cells,Cell.asL]
  | .ff,x=>rfl
  | .pr,x=>by simp [Ty.of,Ty.cells,Cell.asL]
  | .sl _ t,x=>by simp [Ty.of,Ty.cells,Cell.asL]
theorem ae6 (t:Ty) (x:t.T):rdP t (mkP t x)=some x:=by
  have h:=Ty.of_cells t x;cases t <;> simpa [mkP,rdP,Ty.cells,Ty.ag] using h
theorem uM:(ts:List Ty)→(a:l7 ts)→mD ts (jG ts a)=some a
  | [],_=>rfl
  | t :: ts,a=>by
    simp only [jG,mD,ae6,uM ts a.2];rfl
theorem aaT {P:Program} {f:FuncId} {ts:List Ty} {F:l7 ts→Option Bool} (h:iV P f (iY ts [.pl .bool] F).s) {W:World} {a:l7 ts} {vs:List Value} (hR:ad4 W ts a vs) (hF:F a=some true) :
    Calls P f vs.toArray W fun e W'=>e=.returned (.bool true)∧Below W.heap.size W W':=by
  obtain ⟨fn,_,_,_,h⟩:=h;obtain ⟨q1,q2⟩:=ae5 hR;have hs:(iY ts [.pl .bool] F).s (jG ts a)=some (zm [.pl .bool] true):=by
    show ((mD ts (jG ts a)).map F).bind _=_;rw [uM];show (F a).map _=_;rw [hF];rfl
  refine (h 0 (gh0 W) W 0 0 _ _ _ ⟨fun b o hb=>hb,fun b ℓ hl=>by cases hl⟩ (by simpa using q1) (fun i x v hx hv=>q2 i x v hx (by simpa using hv)) hs).mono ?_;rintro e W' ⟨v,rfl,g',_,_,hE,hv⟩;refine ⟨?_,⟨hE.os,hE.tape,hE.output,hE.size,fun b hb=>(hE.far b hb (fun ℓ hl=>by cases hl)).1⟩⟩;have hv:v=.bool true∧_:=hv;rw [hv.1]
end
end Go.Proofs.YtcomnjodjijcmaaGreat.M
namespace Go.Proofs.YtcomnjodjijcmaaGreat.P
set_option linter.unusedVariables false
set_option linter.unusedSimpArgs false
open Go.RowKit
def SL (lo hi:Int):List Sp→Prop
  | []=>True
  | s :: r=>lo≤s.f0∧s.f0≤s.f1∧s.f1≤hi∧SL (s.f1+2) hi r
def uY (l:List Sp) (x:Int):Bool:=l.any fun s=>decide (s.f0≤x)&&decide (x≤s.f1)
theorem kN (s:Sp) (r:List Sp) (x:Int):uY (s :: r) x=((decide (s.f0≤x)&&decide (x≤s.f1)) || uY r x):=rfl
theorem uN {l:List Sp} {x:Int}:uY l x=true↔∃ s∈l,s.f0≤x∧x≤s.f1:=by simp [uY]
theorem SL.mono {lo lo' hi:Int} (h:lo'≤lo):∀ {l:List Sp},SL lo hi l→SL lo' hi l
  | [],_=>trivial
  | _ :: _,hs=>⟨by have:=hs.1;omega,hs.2⟩
theorem SL.low {lo hi:Int} {l:List Sp} (hs:SL lo hi l) {x:Int} (hx:x<lo):uY l x=false:=by
  induction l generalizing lo with
  | nil=>rfl
  | cons s r ih =>
    obtain ⟨h1,h2,h3,h4⟩:=hs;rw [kN,ih h4 (by omega)];have:¬ s.f0≤x:=by omega
    simp [this]
theorem SL.high {lo hi:Int} {l:List Sp} (hs:SL lo hi l) {x:Int} (hx:hi<x):uY l x=false:=by
  induction l generalizing lo with
  | nil=>rfl
  | cons s r ih =>
    obtain ⟨h1,h2,h3,h4⟩:=hs;rw [kN,ih h4];have:¬ x≤s.f1:=by omega
    simp [this]
theorem SL.ticks {lo hi:Int} {l:List Sp} (hs:SL lo hi l) {s:Sp} (h:s∈l):lo≤s.f0∧s.f0≤s.f1∧s.f1≤hi:=by
  induction l generalizing lo with
  | nil=>simp at h
  | cons t r ih =>
    obtain ⟨h1,h2,h3,h4⟩:=hs;rcases List.mem_cons.1 h with rfl | h
    · exact ⟨h1,h2,h3⟩
    · obtain ⟨a,b,c⟩:=ih h4 h
      exact ⟨by omega,b,c⟩
def Inv (hi:Int) (a:List Sp) (i:Bool) (p:Int):Prop :=
  match a,i with
  | [],i=>i=false
  | s :: r,true=>s.f0≤p∧p≤s.f1∧s.f1≤hi∧SL (s.f1+2) hi r
  | s :: r,false=>SL (p+1) hi (s :: r)
theorem mI {n:Int} (h1 : -9223372036854775808≤n) (h2:n≤9223372036854775807):wrap64 n=n:=by unfold wrap64;omega
theorem Inv.nxt {hi p:Int} {a:List Sp} {i:Bool} (h:Inv hi a i p) (hp : -4611686018427387904≤p) (hh:hi≤4611686018427387904) (hn:a≠[]):p<ado a i∧ado a i≤hi+1:=by
  match a,i,hn with
  | s :: r,true,_ =>
    obtain ⟨h1,h2,h3,h4⟩:=h;have hw:wrap64 (s.f1+1)=s.f1+1:=mI (by omega) (by omega);simp only [ado,hw];omega
  | s :: r,false,_ =>
    obtain ⟨h1,h2,h3,h4⟩:=h;simp only [ado];omega
theorem Inv.step {hi p t:Int} {a:List Sp} {i:Bool} (h:Inv hi a i p) (hp : -4611686018427387904≤p) (hh:hi≤4611686018427387904) (hpt:p<t) (ht:a≠[]→t≤ado a i) :
    Inv hi (zT a i t).1 (zT a i t).2 t∧(∀ x,t≤x→uY (zT a i t).1 x=uY a x)∧(∀ x,p≤x→x<t→uY a x=i):=by
  match a,i with
  | [],i =>
    have:i=false:=h;subst this;exact ⟨rfl,fun _ _=>rfl,fun _ _ _=>rfl⟩
  | s :: r,true =>
    obtain ⟨h1,h2,h3,h4⟩:=h;have hw:wrap64 (s.f1+1)=s.f1+1:=mI (by omega) (by omega);have ht':=ht (by simp);simp only [ado,hw] at ht';have hin:∀ x,p≤x→x<t→uY (s :: r) x=true:=fun x a b=>by
      have c1:s.f0≤x:=by omega
      have c2:x≤s.f1:=by omega
      simp [kN,c1,c2]
    simp only [zT,hw];by_cases e:s.f1+1=t
    · rw [if_pos e]
      refine ⟨?_,fun x hx => ?_,hin⟩
      · cases r with
        | nil=>rfl
        | cons u r=>exact SL.mono (by omega) h4
      · have:¬ x≤s.f1:=by omega
        simp [kN,this]
    · rw [if_neg e]
      exact ⟨⟨by omega,by omega,h3,h4⟩,fun _ _=>rfl,hin⟩
  | s :: r,false =>
    obtain ⟨h1,h2,h3,h4⟩:=h;have ht':=ht (by simp);simp only [ado] at ht';have hout:∀ x,p≤x→x<t→uY (s :: r) x=false:=fun x a b=>by
      have c1:¬ s.f0≤x:=by omega
      rw [kN,h4.low (by omega)];simp [c1]
    simp only [zT];by_cases e:s.f0=t
    · rw [if_pos e]
      exact ⟨⟨by omega,by omega,h3,h4⟩,fun _ _=>rfl,hout⟩
    · rw [if_neg e]
      exact ⟨⟨by omega,h2,h3,h4⟩,fun _ _=>rfl,hout⟩
def ins:List Int→Int→List Int
  | [],x=>[x]
  | y :: r,x=>if y=x then y :: r else if y>x then x :: y :: r else y :: ins r x
end Go.Proofs.YtcomnjodjijcmaaGreat.P
namespace Go.Proofs.YtcomnjodjijcmaaGreat.P
set_option linter.unusedVariables false
set_option linter.unusedSimpArgs false
open Go.RowKit Go.ChangeShapes Go.WideShapes Go.Deep Go.Proofs.YtcomnjodjijcmaaGreatW.dA
def fits (n:Int):Prop:=(Lit.int .i64 n).wf=true
def p9 (s:Sp):Prop:=fits s.f0∧fits s.f1
end Go.Proofs.YtcomnjodjijcmaaGreat.P
namespace Go.Proofs.YtcomnjodjijcmaaGreat.P
set_option linter.unusedVariables false
set_option linter.unusedSimpArgs false
open Go.RowKit Go.ChangeShapes Go.WideShapes Go.Deep Go.Proofs.YtcomnjodjijcmaaGreatW.dA Go.Proofs.YtcomnjodjijcmaaGreatW.eD
theorem zP {cs:List Value} (h:cs.length=2):∃ a b,cs=[a,b]:=by
  match cs,h with
  | [a,b],_=>exact ⟨a,b,rfl⟩
theorem zQ {cs:List Value} (h:cs.length=4):∃ a b c d,cs=[a,b,c,d]:=by
  match cs,h with
  | [a,b,c,d],_=>exact ⟨a,b,c,d,rfl⟩
theorem vX {T:Type} (k:Kd T) {H:Type} {enc:TypeId × Value→H} {w:World} {base:Nat} {held:Bool} {t e:TypeId} {fuel:Nat} {cs:List Value} {x:DataW H × List MemPlace}
    (ht:Tryz.prog.underlying t=some (.slice e)) (hn:Tryz.prog.cellsOf e=k.sz) (Q:T→Prop)
    (op:∀ fuel cs x,DataW.trod enc Tryz.prog w base (fun _=>true) held fuel e cs=some x→∃ v,k.K w v cs∧Q v)
    (h:DataW.trod enc Tryz.prog w base (fun _=>true) held fuel t cs=some x) :
    ∃ (a:Option Addr) (cap:Nat) (l:List T),cs=[.slice a l.length cap]∧l.length≤cap∧Kd.C k w a l.length l∧(∀ s∈l,Q s)∧l.length≤9223372036854775807:=by
  rcases open_slice ht h with ⟨hc,_⟩ | ⟨a,len,cap,m,n,D,Pl,hc,hb,hl,hm,hmm,hx,hi⟩
  · exact ⟨none,0,[],by rw [hc];rfl,Nat.le_refl _,⟨rfl,by simp,fun h=>absurd h (by simp)⟩,by simp,by simp⟩
  · have hlm:len≤m:=by rw [hmm];simpa using hl
    have hk:∀ i,i<len→∃ v cs',k.K w v cs'∧Q v∧∀ j u,cs'[j]? = some u→w.cell? (a.add (i*k.sz+j))=some u:=by
      intro i hi';obtain ⟨cs',h1,h2⟩:=hi i (by omega);rw [hn] at h1;obtain ⟨_,hlen,hcell⟩:=World.cells?_some h1;obtain ⟨v,v1,v2⟩:=op _ _ _ h2;refine ⟨v,cs',v1,v2,fun j u hu => ?_⟩;have hj:j<k.sz:=by rw [← hlen];exact (List.getElem?_eq_some_iff.1 hu).1
      have:=hcell j hj;rw [Deep.add_add] at this;rw [this,hu]
    have hmax:len≤9223372036854775807:=by unfold maxLen at hm;omega
    suffices key:∀ q,q≤len→∃ l:List T,l.length=q∧(∀ j s,l[j]? = some s→∃ cs',k.K w s cs'∧∀ i u,cs'[i]? = some u→w.cell? (a.add (j*k.sz+i))=some u)∧∀ s∈l,Q s by
      obtain ⟨l,rfl,hl2,hfit⟩:=key len (Nat.le_refl _);refine ⟨some a,cap,l,hc,hl,⟨rfl,hmax,fun _=>⟨a,rfl,fun j s hj => ?_⟩⟩,hfit,hmax⟩;obtain ⟨cs',g1,g2⟩:=hl2 j s hj;exact ⟨cs',k.kC g1,g1,g2⟩
    intro q;induction q with
    | zero=>exact fun _=>⟨[],rfl,fun j s h=>by simp at h,by simp⟩
    | succ q ih =>
      intro hk';obtain ⟨l,hl1,hl2,hl3⟩:=ih (by omega);obtain ⟨s,cs',h0,h1,h2⟩:=hk q (by omega);refine ⟨l++[s],by simp [hl1],fun j t hj => ?_,fun t ht => ?_⟩
      · by_cases hjk:j<l.length
        · rw [List.getElem?_append_left hjk] at hj;exact hl2 j t hj
        · rw [List.getElem?_append_right (by omega)] at hj
          have:j - l.length=0:=by
            by_cases e:j - l.length=0
            · exact e
            · rw [List.getElem?_eq_none (by simp;omega)] at hj;cases hj
          rw [this] at hj;simp at hj;subst hj;have:j=q:=by omega
          subst this;exact ⟨cs',h0,h2⟩
      · simp at ht
        rcases ht with ht | rfl
        · exact hl3 t ht
        · exact h1
section
variable {H:Type} {enc:TypeId × Value→H} {w:World} {base:Nat} {held:Bool} {fuel:Nat} {cs:List Value} {x:DataW H × List MemPlace}
theorem lM (h:DataW.trod enc Tryz.prog w base (fun _=>true) held fuel 3 cs=some x):∃ n,cs=[.int .i64 n]∧fits n:=by
  obtain ⟨n,e0,_,w0⟩:=DataW.trod_int Tryz.underlying3 h;exact ⟨n,e0,w0⟩
theorem ad5 (h:DataW.trod enc Tryz.prog w base (fun _=>true) held fuel 42 cs=some x):∃ s:Sp,k42.K w s cs∧p9 s:=by
  obtain ⟨xs,n,_,_,hl,hxs,hf⟩:=DataW.trod_struct Tryz.underlying42 h;have e9:Tryz.prog.cellsOf 42=2:=by kernel_rfl
  rw [e9] at hl;have hl2:cs.length=2:=hl;clear hl e9;obtain ⟨v0,v1,rfl⟩:=zP hl2;have g0:DataW.trod enc Tryz.prog w base (fun _=>true) held n 3 (List.take (Tryz.prog.cellsOf 3) (List.drop 0 [v0,v1]))=xs[0]? := hf 0 _ rfl;rw [show Tryz.prog.cellsOf 3=1 by kernel_rfl] at g0;have g1:DataW.trod enc Tryz.prog w base (fun _=>true) held n 3 (List.take (Tryz.prog.cellsOf 3) (List.drop 1 [v0,v1]))=xs[1]? := hf 1 _ rfl;rw [show Tryz.prog.cellsOf 3=1 by kernel_rfl] at g1;cases hx0:xs[0]? with
  | none=>have:=List.getElem?_eq_none_iff.1 hx0;rw [hxs] at this;exact absurd this (by decide)
  | some y0 =>
    cases hx1:xs[1]? with
    | none=>have:=List.getElem?_eq_none_iff.1 hx1;rw [hxs] at this;exact absurd this (by decide)
    | some y1 =>
      rw [hx0] at g0;rw [hx1] at g1;obtain ⟨a,ea,wa⟩:=lM g0;obtain ⟨b,eb,wb⟩:=lM g1;have aa:[v0]=[.int .i64 a]:=ea;have eb':[v1]=[.int .i64 b]:=eb;injection aa with aa
      injection eb' with eb'
      subst aa eb';exact ⟨⟨a,b⟩,aeA w ⟨a,b⟩,wa,wb⟩
theorem xL (h:DataW.trod enc Tryz.prog w base (fun _=>true) held fuel 37 cs=some x):∃ (a:Option Addr) (cap:Nat) (l:List Sp),cs=[.slice a l.length cap]∧l.length≤cap∧Kd.C k42 w a l.length l∧(∀ s∈l,p9 s)∧l.length≤9223372036854775807 :=
  vX k42 Tryz.underlying37 (by kernel_rfl) p9 (fun _ _ _ g=>ad5 g) h
theorem aaU (h:DataW.trod enc Tryz.prog w base (fun _=>true) held fuel 37 cs=some x):∃ l:List Sp,(Kd.slice 42 k42).K w l cs∧((∀ s∈l,p9 s)∧l.length≤9223372036854775807):=by
  obtain ⟨a,cap,l,rfl,h1,h2,h3,h4⟩:=xL h;exact ⟨l,⟨a,cap,rfl,h1,h2⟩,h3,h4⟩
theorem aaV (h:DataW.trod enc Tryz.prog w base (fun _=>true) held fuel 22 cs=some x):∃ (a:Option Addr) (cap:Nat) (l:List (List Sp)),cs=[.slice a l.length cap]∧l.length≤cap∧Kd.C (Kd.slice 42 k42) w a l.length l∧(∀ s∈l,(∀ z∈s,p9 z)∧s.length≤9223372036854775807)∧l.length≤9223372036854775807 :=
  vX (Kd.slice 42 k42) Tryz.underlying22 (by kernel_rfl) _ (fun _ _ _ g=>aaU g) h
def xM (g:S44):Prop:=fits g.f0∧(∀ z∈g.f1,p9 z)∧g.f1.length≤9223372036854775807
theorem ad6 (h:DataW.trod enc Tryz.prog w base (fun _=>true) held fuel 44 cs=some x):∃ g:S44,k44.K w g cs∧xM g:=by
  obtain ⟨xs,n,_,_,hl,hxs,hf⟩:=DataW.trod_struct Tryz.underlying44 h;have e9:Tryz.prog.cellsOf 44=2:=by kernel_rfl
  rw [e9] at hl;have hl2:cs.length=2:=hl;clear hl e9;obtain ⟨v0,v1,rfl⟩:=zP hl2;have g0:DataW.trod enc Tryz.prog w base (fun _=>true) held n 3 (List.take (Tryz.prog.cellsOf 3) (List.drop 0 [v0,v1]))=xs[0]? := hf 0 _ rfl;rw [show Tryz.prog.cellsOf 3=1 by kernel_rfl] at g0;have g1:DataW.trod enc Tryz.prog w base (fun _=>true) held n 37 (List.take (Tryz.prog.cellsOf 37) (List.drop 1 [v0,v1]))=xs[1]? := hf 1 _ rfl;rw [show Tryz.prog.cellsOf 37=1 by kernel_rfl] at g1;cases hx0:xs[0]? with
  | none=>have:=List.getElem?_eq_none_iff.1 hx0;rw [hxs] at this;exact absurd this (by decide)
  | some y0 =>
    cases hx1:xs[1]? with
    | none=>have:=List.getElem?_eq_none_iff.1 hx1;rw [hxs] at this;exact absurd this (by decide)
    | some y1 =>
      rw [hx0] at g0;rw [hx1] at g1;obtain ⟨a,ea,wa⟩:=lM g0;obtain ⟨b,cap,l,eb,l1,l2,l3,l4⟩:=xL g1;have aa:[v0]=[.int .i64 a]:=ea;have eb':[v1]=[.slice b l.length cap]:=eb;injection aa with aa
      injection eb' with eb'
      subst aa eb';exact ⟨⟨a,l⟩,aeB w ⟨a,l⟩ l1 l2,wa,l3,l4⟩
theorem acw (h:DataW.trod enc Tryz.prog w base (fun _=>true) held fuel 23 cs=some x):∃ (a:Option Addr) (cap:Nat) (l:List S44),cs=[.slice a l.length cap]∧l.length≤cap∧Kd.C k44 w a l.length l∧(∀ s∈l,xM s)∧l.length≤9223372036854775807 :=
  vX k44 Tryz.underlying23 (by kernel_rfl) xM (fun _ _ _ g=>ad6 g) h
structure aaW (p c:Int) (core:List (List Sp)) (odd:List S44):Prop where
  fp:fits p
  fc:fits c
  agu:∀ l∈core,(∀ z∈l,p9 z)∧l.length≤9223372036854775807
  ahr:∀ g∈odd,xM g
  lc:core.length≤9223372036854775807
  lo:odd.length≤9223372036854775807
set_option maxRecDepth 200000 in
theorem uO {b0:Nat} {v:Value} {d:DataW H} {ps:List MemPlace} (hv:Value.okWide Tryz.prog w .any b0 25 v) (h:DataW.Trod enc Tryz.prog w base (fun _=>true) held 25 v d ps) :
    ∃ (p c:Int) (A2:Option Addr) (c2:Nat) (core:List (List Sp)) (A3:Option Addr) (c3:Nat) (odd:List S44),v=.agg #[.int .i64 p,.int .i64 c,.slice A2 core.length c2,.slice A3 odd.length c3] ∧
      Kd.C (Kd.slice 42 k42) w A2 core.length core∧core.length≤c2∧Kd.C k44 w A3 odd.length odd∧odd.length≤c3∧aaW p c core odd:=by
  have hq:=okWide_struct (P:=Tryz.prog) (w:=w) (r:=.any) (base:=b0) (t:=25) (v:=v) Tryz.underlying25;have hq2:=hq hv;obtain ⟨cs,rfl,hsz⟩:=hq2;obtain ⟨fuel,h⟩:=h;obtain ⟨xs,n,_,_,hl,hxs,hf⟩:=DataW.trod_struct Tryz.underlying25 h;have e9:Tryz.prog.cellsOf 25=4:=by kernel_rfl
  rw [e9] at hl;have hl2:cs.toList.length=4:=hl;clear hl e9;obtain ⟨l⟩:=cs;obtain ⟨v0,v1,v2,v3,rfl⟩:=zQ hl2;have g0:DataW.trod enc Tryz.prog w base (fun _=>true) held n 3 (List.take (Tryz.prog.cellsOf 3) (List.drop 0 [v0,v1,v2,v3]))=xs[0]? := hf 0 _ rfl;rw [show Tryz.prog.cellsOf 3=1 by kernel_rfl] at g0;have g1:DataW.trod enc Tryz.prog w base (fun _=>true) held n 3 (List.take (Tryz.prog.cellsOf 3) (List.drop 1 [v0,v1,v2,v3]))=xs[1]? := hf 1 _ rfl;rw [show Tryz.prog.cellsOf 3=1 by kernel_rfl] at g1;have g2:DataW.trod enc Tryz.prog w base (fun _=>true) held n 22 (List.take (Tryz.prog.cellsOf 22) (List.drop 2 [v0,v1,v2,v3]))=xs[2]? := hf 2 _ rfl;rw [show Tryz.prog.cellsOf 22=1 by kernel_rfl] at g2;have g3:DataW.trod enc Tryz.prog w base (fun _=>true) held n 23 (List.take (Tryz.prog.cellsOf 23) (List.drop 3 [v0,v1,v2,v3]))=xs[3]? := hf 3 _ rfl;rw [show Tryz.prog.cellsOf 23=1 by kernel_rfl] at g3;have hx:∀ j,j<4→∃ y,xs[j]? = some y:=fun j hj=>⟨_,List.getElem?_eq_getElem (by rw [hxs];exact hj)⟩;obtain ⟨y0,e0⟩:=hx 0 (by omega);obtain ⟨y1,e1⟩:=hx 1 (by omega);obtain ⟨y2,e2⟩:=hx 2 (by omega);obtain ⟨y3,e3⟩:=hx 3 (by omega);rw [e0] at g0;rw [e1] at g1;rw [e2] at g2;rw [e3] at g3;obtain ⟨p,ep,wp⟩:=lM g0;obtain ⟨c,ec,wc⟩:=lM g1;obtain ⟨A2,c2,core,e2',l1,l2,l3,l4⟩:=aaV g2;obtain ⟨A3,c3,odd,e3',m1,m2,m3,m4⟩:=acw g3;have ac:[v0]=[.int .i64 p]:=ep;have af:[v1]=[.int .i64 c]:=ec;have aa:[v2]=[.slice A2 core.length c2]:=e2';have ab:[v3]=[.slice A3 odd.length c3]:=e3';injection ac with ac
  injection af with af
  injection aa with aa
  injection ab with ab
  subst ac af aa ab;exact ⟨p,c,A2,c2,core,A3,c3,odd,rfl,l2,l1,m2,m1,⟨wp,wc,l3,m3,l4,m4⟩⟩
end
end Go.Proofs.YtcomnjodjijcmaaGreat.P
