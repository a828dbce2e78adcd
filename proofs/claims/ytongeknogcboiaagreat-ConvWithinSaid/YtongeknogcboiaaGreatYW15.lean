/- Lemmas for laws of chapter 7: what the functions that they reach compute. No condition of its own. -/
import Derived.Test.YtongeknogcboiaaGreatYW9
import Derived.Test.YtongeknogcboiaaGreatYW11
import Derived.Test.YtongeknogcboiaaGreatYW12
import Derived.Test.YtongeknogcboiaaGreatYW14
import Derived.Test.YtongeknogcboiaaGreatYW13
import Derived.Test.YtongeknogcboiaaGreatYW8
import Derived.Test.YtongeknogcboiaaGreatYW2
import Derived.Deep.SlicePairs
import Derived.ChangeArms
import Derived.ProofKit
namespace Go.Proofs.YtongeknogcboiaaGreat.R
open M Go.RowKit Go.Proofs.YtongeknogcboiaaGreatW.fP Go.Proofs.YtongeknogcboiaaGreatW.gK Go.Proofs.YtongeknogcboiaaGreatW.iD
set_option linter.unusedVariables false
noncomputable def fF.m (k:Nat):Sm:=jN [.fm,(.int .i64)] [.pl .fm,.pl (.int .i64)] (fun a=>fF.f k a.1.f0 a.1.f1 a.1.f2 a.1.f3 a.2.1)
noncomputable def fF.y0.p0:List PB:=[.box 25 [.i .i64,.i .i64,.s (.sl 41 .sp),.s .gr],.box 25 [.li .i64 0,.li .i64 0,.lo 28 (.sl 41 .sp),.lo 43 .gr],.box 25 [.i .i64,.i .i64,.o 28 (.sl 41 .sp),.o 43 .gr],.box 43 [.i .i64,.s .sp],.box 28 [.lo 41 .sp],.box 29 [.i .i64],.box 28 [.mu 41 .sp],.box 77 [.fn 48 [0]],.box 3 [.i .i64],.box 3 [.i .i64],.lp .ret]
noncomputable def fF.y0.p1:List PB:=[.box 25 [.i .i64,.i .i64,.s (.sl 41 .sp),.s .gr],.box 25 [.li .i64 0,.li .i64 0,.lo 28 (.sl 41 .sp),.lo 43 .gr],.box 25 [.i .i64,.i .i64,.o 28 (.sl 41 .sp),.o 43 .gr],.box 43 [.i .i64,.s .sp],.box 28 [.lo 41 .sp],.box 29 [.li .i64 0],.box 28 [.mu 41 .sp],.box 77 [.fn 48 [0]],.box 3 [.i .i64],.box 3 [.i .i64],.lp .normal]
noncomputable def fF.y0 {γ:Type} (x:AV) (bx:List Bx) (x0:Int→Int→(List (List P.S41))→(List P.S43)→Int→Int→(List (List P.S41))→(List P.S43)→Int→(List P.S41)→Int→(List P.S41)→Int→Int→Option γ) (x1:Int→Int→(List (List P.S41))→(List P.S43)→Int→Int→(List (List P.S41))→(List P.S43)→Int→(List P.S41)→(List P.S41)→Int→Int→Option γ):Option γ :=
  match yrd false fF.y0.p0 x bx with
  | some [.i z1,.i z2,.l (.sl 41 .sp) z3,.l .gr z4,.i z5,.i z6,.l (.sl 41 .sp) z7,.l .gr z8,.i z9,.l .sp z10,.i z11,.l .sp z12,.i z13,.i z14]=>(x0 z1 z2 z3 z4 z5 z6 z7 z8 z9 z10 z11 z12 z13 z14)
  | _=>match yrd true fF.y0.p1 x bx with
  | some [.i z1,.i z2,.l (.sl 41 .sp) z3,.l .gr z4,.i z5,.i z6,.l (.sl 41 .sp) z7,.l .gr z8,.i z9,.l .sp z10,.l .sp z11,.i z12,.i z13]=>(x1 z1 z2 z3 z4 z5 z6 z7 z8 z9 z10 z11 z12 z13)
  | _=>none
noncomputable def fF.y0T {γ:Type}:YdK γ:=fun K x bx=>fF.y0 x bx (fun z1 z2 z3 z4 z5 z6 z7 z8 z9 aa ab z12 ac af=>K (kC false) (oq fF.y0.p0 [.i z1,.i z2,.l (.sl 41 .sp) z3,.l .gr z4,.i z5,.i z6,.l (.sl 41 .sp) z7,.l .gr z8,.i z9,.l .sp aa,.i ab,.l .sp z12,.i ac,.i af]).1) (fun z1 z2 z3 z4 z5 z6 z7 z8 z9 aa ab z12 ac=>K (kC true) (oq fF.y0.p1 [.i z1,.i z2,.l (.sl 41 .sp) z3,.l .gr z4,.i z5,.i z6,.l (.sl 41 .sp) z7,.l .gr z8,.i z9,.l .sp aa,.l .sp ab,.i z12,.i ac]).1)
theorem fF.ni {γ:Type}:uE (fF.y0T (γ:=γ)):=fun K x bx v h=>by
  unfold fF.y0T fF.y0 at h;split at h
  · rename_i hy
    obtain ⟨rfl,rfl⟩:=j5 hy;exact h
  · split at h
    · rename_i hy
      obtain ⟨rfl,rfl⟩:=j5 hy;exact h
    · cases h
noncomputable def fF.y1.p0:List PB:=[.box 25 [.i .i64,.i .i64,.s (.sl 41 .sp),.s .gr],.box 25 [.li .i64 0,.li .i64 0,.lo 28 (.sl 41 .sp),.lo 43 .gr],.no,.box 25 [.i .i64,.i .i64,.s (.sl 41 .sp),.s .gr],.box 25 [.li .i64 0,.li .i64 0,.lo 28 (.sl 41 .sp),.lo 43 .gr],.box 25 [.i .i64,.i .i64,.o 28 (.sl 41 .sp),.lo 43 .gr],.box 28 [.lo 41 .sp],.box 29 [.i .i64],.box 28 [.mu 41 .sp],.box 77 [.fn 82 [3]],.box 3 [.i .i64],.box 3 [.i .i64],.lp .ret]
noncomputable def fF.y1.p1:List PB:=[.box 25 [.i .i64,.i .i64,.s (.sl 41 .sp),.s .gr],.box 25 [.li .i64 0,.li .i64 0,.lo 28 (.sl 41 .sp),.lo 43 .gr],.no,.box 25 [.i .i64,.i .i64,.s (.sl 41 .sp),.s .gr],.box 25 [.li .i64 0,.li .i64 0,.lo 28 (.sl 41 .sp),.lo 43 .gr],.box 25 [.i .i64,.i .i64,.o 28 (.sl 41 .sp),.lo 43 .gr],.box 28 [.lo 41 .sp],.box 29 [.li .i64 0],.box 28 [.mu 41 .sp],.box 77 [.fn 82 [3]],.box 3 [.i .i64],.box 3 [.i .i64],.lp .normal]
noncomputable def fF.y1 {γ:Type} (x:AV) (bx:List Bx) (x0:Int→Int→(List (List P.S41))→(List P.S43)→Int→Int→(List (List P.S41))→(List P.S43)→Int→Int→(List (List P.S41))→Int→(List P.S41)→Int→Int→Option γ) (x1:Int→Int→(List (List P.S41))→(List P.S43)→Int→Int→(List (List P.S41))→(List P.S43)→Int→Int→(List (List P.S41))→(List P.S41)→Int→Int→Option γ):Option γ :=
  match yrd false fF.y1.p0 x bx with
  | some [.i z1,.i z2,.l (.sl 41 .sp) z3,.l .gr z4,.i z5,.i z6,.l (.sl 41 .sp) z7,.l .gr z8,.i z9,.i z10,.l (.sl 41 .sp) z11,.i z12,.l .sp z13,.i z14,.i z15]=>(x0 z1 z2 z3 z4 z5 z6 z7 z8 z9 z10 z11 z12 z13 z14 z15)
  | _=>match yrd true fF.y1.p1 x bx with
  | some [.i z1,.i z2,.l (.sl 41 .sp) z3,.l .gr z4,.i z5,.i z6,.l (.sl 41 .sp) z7,.l .gr z8,.i z9,.i z10,.l (.sl 41 .sp) z11,.l .sp z12,.i z13,.i z14]=>(x1 z1 z2 z3 z4 z5 z6 z7 z8 z9 z10 z11 z12 z13 z14)
  | _=>none
noncomputable def fF.y1T {γ:Type}:YdK γ:=fun K x bx=>fF.y1 x bx (fun z1 z2 z3 z4 z5 z6 z7 z8 z9 aa ab z12 ac af ah=>K (kC false) (oq fF.y1.p0 [.i z1,.i z2,.l (.sl 41 .sp) z3,.l .gr z4,.i z5,.i z6,.l (.sl 41 .sp) z7,.l .gr z8,.i z9,.i aa,.l (.sl 41 .sp) ab,.i z12,.l .sp ac,.i af,.i ah]).1) (fun z1 z2 z3 z4 z5 z6 z7 z8 z9 aa ab z12 ac af=>K (kC true) (oq fF.y1.p1 [.i z1,.i z2,.l (.sl 41 .sp) z3,.l .gr z4,.i z5,.i z6,.l (.sl 41 .sp) z7,.l .gr z8,.i z9,.i aa,.l (.sl 41 .sp) ab,.l .sp z12,.i ac,.i af]).1)
theorem fF.vM {γ:Type}:uE (fF.y1T (γ:=γ)):=fun K x bx v h=>by
  unfold fF.y1T fF.y1 at h;split at h
  · rename_i hy
    obtain ⟨rfl,rfl⟩:=j5 hy;exact h
  · split at h
    · rename_i hy
      obtain ⟨rfl,rfl⟩:=j5 hy;exact h
    · cases h
noncomputable def fF.l1.p:PS:=⟨[.one (.yl 10),nO,.one (.bp 7 0),.one (.bp 8 0),nO,nO,.one (.i .i64),.one (.i .i64)]++nOs 13,[.box 25 [.i .i64,.i .i64,.s (.sl 41 .sp),.s .gr],.box 25 [.li .i64 0,.li .i64 0,.lo 28 (.sl 41 .sp),.lo 43 .gr],.box 25 [.i .i64,.i .i64,.o 28 (.sl 41 .sp),.o 43 .gr],.box 43 [.i .i64,.s .sp],.box 28 [.lo 41 .sp],.box 29 [.li .i64 0],.box 28 [.mu 41 .sp],.box 77 [.fn 48 [0]],.box 3 [.i .i64],.box 3 [.i .i64],.lp .normal]⟩
noncomputable def fF.l1.c {γ:Type} (YK:HdK γ) (K:gy→St→Option γ)  := ((fun q0 q1 q2 q3 q4 q5 q6 q7 q8 q9 af ah ai aj ak x0 x1=>(YK 10).bind fun h=>h [.pt (.one (.sl .sp q0)),.pt (.one (.v (.int .i64 q1)))] [.box 25 [.v (.int .i64 q2),.v (.int .i64 q3),.sl (.sl 41 .sp) q4,.sl .gr q5],.box 25 [.v (.int .i64 0),.v (.int .i64 0),.ow 28 (.sl 41 .sp) [],.ow 43 .gr []],.box 25 [.v (.int .i64 q6),.v (.int .i64 q7),.ow 28 (.sl 41 .sp) q8,.ow 43 .gr q9],.box 43 [.v (.int .i64 af),.sl .sp ah],.box 28 [.ow 41 .sp []],.box 29 [.v (.int .i64 0)],.box 28 [.mu 41 .sp ai],.box 77 [.fn 48 [0]],.box 3 [.v (.int .i64 aj)],.box 3 [.v (.int .i64 ak)],.lp .normal] (fun x bx=>fF.y0 x bx x0 x1)),(fun y1 y2 y3 y4 y5 y6 y7 y8 y9 aa ab ac y13 al=>K .ret ((⟨nOs 21,[.box 25 [.i .i64,.i .i64,.s (.sl 41 .sp),.s .gr],.box 25 [.li .i64 0,.li .i64 0,.lo 28 (.sl 41 .sp),.lo 43 .gr],.box 25 [.i .i64,.i .i64,.o 28 (.sl 41 .sp),.o 43 .gr],.box 43 [.i .i64,.s .sp],.box 28 [.lo 41 .sp],.box 29 [.i .i64],.box 28 [.mu 41 .sp],.box 77 [.fn 48 [0]],.box 3 [.i .i64],.box 3 [.i .i64],.lp .ret]⟩:PS).mk' [.i y1,.i y2,.l (.sl 41 .sp) y3,.l .gr y4,.i y5,.i y6,.l (.sl 41 .sp) y7,.l .gr y8,.i y9,.l .sp aa,.i ab,.l .sp ac,.i y13,.i al])),(fun y1 y2 y3 y4 y5 y6 y7 y8 y9 aa ab ac y13=>K (.exit 0) ((⟨nOs 21,[.box 25 [.i .i64,.i .i64,.s (.sl 41 .sp),.s .gr],.box 25 [.li .i64 0,.li .i64 0,.lo 28 (.sl 41 .sp),.lo 43 .gr],.box 25 [.i .i64,.i .i64,.o 28 (.sl 41 .sp),.o 43 .gr],.box 43 [.i .i64,.s .sp],.box 28 [.lo 41 .sp],.box 29 [.li .i64 0],.box 28 [.mu 41 .sp],.box 77 [.fn 48 [0]],.box 3 [.i .i64],.box 3 [.i .i64],.lp .normal]⟩:PS).mk' [.i y1,.i y2,.l (.sl 41 .sp) y3,.l .gr y4,.i y5,.i y6,.l (.sl 41 .sp) y7,.l .gr y8,.i y9,.l .sp aa,.l .sp ab,.i ac,.i y13])))
noncomputable def fF.l1.g {γ:Type} (YK:HdK γ) (k:Nat) (K:gy→St→Option γ):List Lf→Option γ
  | [.i c1,.i v2,.i v3,.i v4,.l (.sl 41 .sp) v5,.l .gr v6,.i v7,.i v8,.l (.sl 41 .sp) v9,.l .gr v10,.i v11,.l .sp v12,.l .sp v13,.i v14,.i v15]=>let q:=fF.l1.c YK K;fF.l1 q.1 q.2.1 q.2.2 c1 k v2 v3 v4 v5 v6 v7 v8 v9 v10 v11 v12 v13 v14 v15
  | _=>none
noncomputable def fF.l0.p:PS:=⟨[nO,.one (.i .i64),.one (.bp 0 0),nO,.one (.bp 1 0),nO,.one (.bp 2 0)]++nOs 27++[.one (.s .gr),.one (.i .i64),.one (.i .i64)]++nOs 52,[.box 25 [.i .i64,.i .i64,.s (.sl 41 .sp),.s .gr],.box 25 [.li .i64 0,.li .i64 0,.lo 28 (.sl 41 .sp),.lo 43 .gr],.box 25 [.i .i64,.i .i64,.o 28 (.sl 41 .sp),.o 43 .gr]]⟩
noncomputable def fF.l0.c {γ:Type} (YK:HdK γ) (K:gy→St→Option γ)  := ((fun y1 y2 y3 y4 y5 y6 y7 y8=>K .ret ((⟨nOs 4++[.one (.bp 1 0),.one (.li .i64 20),.one (.bp 2 0)]++nOs 82,[.box 25 [.i .i64,.i .i64,.s (.sl 41 .sp),.s .gr],.box 25 [.li .i64 0,.li .i64 0,.lo 28 (.sl 41 .sp),.lo 43 .gr],.box 25 [.i .i64,.i .i64,.o 28 (.sl 41 .sp),.o 43 .gr]]⟩:PS).mk' [.i y1,.i y2,.l (.sl 41 .sp) y3,.l .gr y4,.i y5,.i y6,.l (.sl 41 .sp) y7,.l .gr y8])),(fun y1 y2 y3 y4 y5 y6 y7 y8=>K (.exit 0) ((⟨nOs 4++[.one (.bp 1 0),nO,.one (.bp 2 0)]++nOs 82,[.box 25 [.i .i64,.i .i64,.s (.sl 41 .sp),.s .gr],.box 25 [.li .i64 0,.li .i64 0,.lo 28 (.sl 41 .sp),.lo 43 .gr],.box 25 [.i .i64,.i .i64,.o 28 (.sl 41 .sp),.o 43 .gr]]⟩:PS).mk' [.i y1,.i y2,.l (.sl 41 .sp) y3,.l .gr y4,.i y5,.i y6,.l (.sl 41 .sp) y7,.l .gr y8])))
noncomputable def fF.l0.g {γ:Type} (YK:HdK γ) (k:Nat) (K:gy→St→Option γ):List Lf→Option γ
  | [.i c1,.l .gr c2,.i c3,.i v4,.i v5,.i v6,.l (.sl 41 .sp) v7,.l .gr v8,.i v9,.i v10,.l (.sl 41 .sp) v11,.l .gr v12]=>let q:=fF.l0.c YK K;fF.l0 q.1 q.2 c1 c2 c3 k v4 v5 v6 v7 v8 v9 v10 v11 v12
  | _=>none
noncomputable def fF.l2.p:PS:=⟨[nO,.one (.i .i64),.one (.bp 3 0),nO,.one (.bp 4 0),nO,.one (.i .i64),.one (.i .i64),.one (.i .i64)]++nOs 18++[.one (.s (.sl 41 .sp)),.one (.i .i64),.one (.i .i64)]++nOs 62,[.box 25 [.i .i64,.i .i64,.s (.sl 41 .sp),.s .gr],.box 25 [.li .i64 0,.li .i64 0,.lo 28 (.sl 41 .sp),.lo 43 .gr],.no,.box 25 [.i .i64,.i .i64,.s (.sl 41 .sp),.s .gr],.box 25 [.li .i64 0,.li .i64 0,.lo 28 (.sl 41 .sp),.lo 43 .gr]]⟩
noncomputable def fF.l2.c {γ:Type} (YK:HdK γ) (K:gy→St→Option γ) (c1:Int) (c2:Int) (c3:Int) (c8:Int) (c9:Int) (c10:List (List P.S41)) (c11:List P.S43) (c12:Int) (c13:Int) (c14:List (List P.S41)) (c15:List P.S43):=(fun y1=>K (.exit 0) ((⟨[nO,.one (.i .i64),.one (.bp 3 0),nO,.one (.bp 4 0),nO,.one (.i .i64),.one (.i .i64),.one (.i .i64)]++nOs 83,[.box 25 [.i .i64,.i .i64,.s (.sl 41 .sp),.s .gr],.box 25 [.li .i64 0,.li .i64 0,.lo 28 (.sl 41 .sp),.lo 43 .gr],.no,.box 25 [.i .i64,.i .i64,.s (.sl 41 .sp),.s .gr],.box 25 [.li .i64 0,.li .i64 0,.lo 28 (.sl 41 .sp),.lo 43 .gr]]⟩:PS).mk' [.i c1,.i c2,.i c3,.i y1,.i c8,.i c9,.l (.sl 41 .sp) c10,.l .gr c11,.i c12,.i c13,.l (.sl 41 .sp) c14,.l .gr c15]))
noncomputable def fF.l2.g {γ:Type} (YK:HdK γ) (k:Nat) (K:gy→St→Option γ):List Lf→Option γ
  | [.i c1,.i c2,.i c3,.i v4,.l (.sl 41 .sp) c5,.i c6,.i v7,.i c8,.i c9,.l (.sl 41 .sp) c10,.l .gr c11,.i c12,.i c13,.l (.sl 41 .sp) c14,.l .gr c15]=>fF.l2 (fF.l2.c YK K c1 c2 c3 c8 c9 c10 c11 c12 c13 c14 c15) c5 c6 k v4 v7
  | _=>none
noncomputable def fF.l4.p:PS:=⟨[.one (.yl 12),nO,.one (.bp 9 0),.one (.bp 10 0),nO,nO,.one (.i .i64),.one (.i .i64)]++nOs 13,[.box 25 [.i .i64,.i .i64,.s (.sl 41 .sp),.s .gr],.box 25 [.li .i64 0,.li .i64 0,.lo 28 (.sl 41 .sp),.lo 43 .gr],.no,.box 25 [.i .i64,.i .i64,.s (.sl 41 .sp),.s .gr],.box 25 [.li .i64 0,.li .i64 0,.lo 28 (.sl 41 .sp),.lo 43 .gr],.box 25 [.i .i64,.i .i64,.o 28 (.sl 41 .sp),.lo 43 .gr],.box 28 [.lo 41 .sp],.box 29 [.li .i64 0],.box 28 [.mu 41 .sp],.box 77 [.fn 82 [3]],.box 3 [.i .i64],.box 3 [.i .i64],.lp .normal]⟩
noncomputable def fF.l4.c {γ:Type} (YK:HdK γ) (K:gy→St→Option γ)  := ((fun q0 q1 q2 q3 q4 q5 q6 q7 q8 q9 ah ai aj ak al am x0 x1=>(YK 12).bind fun h=>h [.pt (.one (.sl .sp q0)),.pt (.one (.v (.int .i64 q1)))] [.box 25 [.v (.int .i64 q2),.v (.int .i64 q3),.sl (.sl 41 .sp) q4,.sl .gr q5],.box 25 [.v (.int .i64 0),.v (.int .i64 0),.ow 28 (.sl 41 .sp) [],.ow 43 .gr []],.no,.box 25 [.v (.int .i64 q6),.v (.int .i64 q7),.sl (.sl 41 .sp) q8,.sl .gr q9],.box 25 [.v (.int .i64 0),.v (.int .i64 0),.ow 28 (.sl 41 .sp) [],.ow 43 .gr []],.box 25 [.v (.int .i64 ah),.v (.int .i64 ai),.ow 28 (.sl 41 .sp) aj,.ow 43 .gr []],.box 28 [.ow 41 .sp []],.box 29 [.v (.int .i64 0)],.box 28 [.mu 41 .sp ak],.box 77 [.fn 82 [3]],.box 3 [.v (.int .i64 al)],.box 3 [.v (.int .i64 am)],.lp .normal] (fun x bx=>fF.y1 x bx x0 x1)),(fun y1 y2 y3 y4 y5 y6 y7 y8 y9 aa ab ac y13 af ao=>K .ret ((⟨nOs 21,[.box 25 [.i .i64,.i .i64,.s (.sl 41 .sp),.s .gr],.box 25 [.li .i64 0,.li .i64 0,.lo 28 (.sl 41 .sp),.lo 43 .gr],.no,.box 25 [.i .i64,.i .i64,.s (.sl 41 .sp),.s .gr],.box 25 [.li .i64 0,.li .i64 0,.lo 28 (.sl 41 .sp),.lo 43 .gr],.box 25 [.i .i64,.i .i64,.o 28 (.sl 41 .sp),.lo 43 .gr],.box 28 [.lo 41 .sp],.box 29 [.i .i64],.box 28 [.mu 41 .sp],.box 77 [.fn 82 [3]],.box 3 [.i .i64],.box 3 [.i .i64],.lp .ret]⟩:PS).mk' [.i y1,.i y2,.l (.sl 41 .sp) y3,.l .gr y4,.i y5,.i y6,.l (.sl 41 .sp) y7,.l .gr y8,.i y9,.i aa,.l (.sl 41 .sp) ab,.i ac,.l .sp y13,.i af,.i ao])),(fun y1 y2 y3 y4 y5 y6 y7 y8 y9 aa ab ac y13 af=>K (.exit 0) ((⟨nOs 21,[.box 25 [.i .i64,.i .i64,.s (.sl 41 .sp),.s .gr],.box 25 [.li .i64 0,.li .i64 0,.lo 28 (.sl 41 .sp),.lo 43 .gr],.no,.box 25 [.i .i64,.i .i64,.s (.sl 41 .sp),.s .gr],.box 25 [.li .i64 0,.li .i64 0,.lo 28 (.sl 41 .sp),.lo 43 .gr],.box 25 [.i .i64,.i .i64,.o 28 (.sl 41 .sp),.lo 43 .gr],.box 28 [.lo 41 .sp],.box 29 [.li .i64 0],.box 28 [.mu 41 .sp],.box 77 [.fn 82 [3]],.box 3 [.i .i64],.box 3 [.i .i64],.lp .normal]⟩:PS).mk' [.i y1,.i y2,.l (.sl 41 .sp) y3,.l .gr y4,.i y5,.i y6,.l (.sl 41 .sp) y7,.l .gr y8,.i y9,.i aa,.l (.sl 41 .sp) ab,.l .sp ac,.i y13,.i af])))
noncomputable def fF.l4.g {γ:Type} (YK:HdK γ) (k:Nat) (K:gy→St→Option γ):List Lf→Option γ
  | [.i c1,.i v2,.i v3,.i v4,.l (.sl 41 .sp) v5,.l .gr v6,.i v7,.i v8,.l (.sl 41 .sp) v9,.l .gr v10,.i v11,.i v12,.l (.sl 41 .sp) v13,.l .sp v14,.i v15,.i v16]=>let q:=fF.l4.c YK K;fF.l4 q.1 q.2.1 q.2.2 c1 k v2 v3 v4 v5 v6 v7 v8 v9 v10 v11 v12 v13 v14 v15 v16
  | _=>none
noncomputable def fF.l3.p:PS:=⟨[nO,.one (.i .i64),.one (.bp 3 0),nO,.one (.bp 4 0)]++nOs 6++[.one (.bp 5 0)]++nOs 55++[.one (.i .i64),.one (.i .i64)]++nOs 23,[.box 25 [.i .i64,.i .i64,.s (.sl 41 .sp),.s .gr],.box 25 [.li .i64 0,.li .i64 0,.lo 28 (.sl 41 .sp),.lo 43 .gr],.no,.box 25 [.i .i64,.i .i64,.s (.sl 41 .sp),.s .gr],.box 25 [.li .i64 0,.li .i64 0,.lo 28 (.sl 41 .sp),.lo 43 .gr],.box 25 [.i .i64,.i .i64,.o 28 (.sl 41 .sp),.lo 43 .gr]]⟩
noncomputable def fF.l3.c {γ:Type} (YK:HdK γ) (K:gy→St→Option γ)  := ((fun y1 y2 y3 y4 y5 y6 y7 y8 y9 aa ab ac=>K .ret ((⟨nOs 4++[.one (.bp 4 0),.one (.i .i64)]++nOs 5++[.one (.bp 5 0)]++nOs 80,[.box 25 [.i .i64,.i .i64,.s (.sl 41 .sp),.s .gr],.box 25 [.li .i64 0,.li .i64 0,.lo 28 (.sl 41 .sp),.lo 43 .gr],.no,.box 25 [.i .i64,.i .i64,.s (.sl 41 .sp),.s .gr],.box 25 [.li .i64 0,.li .i64 0,.lo 28 (.sl 41 .sp),.lo 43 .gr],.box 25 [.i .i64,.i .i64,.o 28 (.sl 41 .sp),.lo 43 .gr]]⟩:PS).mk' [.i y1,.i y2,.i y3,.l (.sl 41 .sp) y4,.l .gr y5,.i y6,.i y7,.l (.sl 41 .sp) y8,.l .gr y9,.i aa,.i ab,.l (.sl 41 .sp) ac])),(fun y1 y2 y3 y4 y5 y6 y7 y8 y9 aa ab=>K (.exit 2) ((⟨nOs 4++[.one (.bp 4 0)]++nOs 6++[.one (.bp 5 0)]++nOs 80,[.box 25 [.i .i64,.i .i64,.s (.sl 41 .sp),.s .gr],.box 25 [.li .i64 0,.li .i64 0,.lo 28 (.sl 41 .sp),.lo 43 .gr],.no,.box 25 [.i .i64,.i .i64,.s (.sl 41 .sp),.s .gr],.box 25 [.li .i64 0,.li .i64 0,.lo 28 (.sl 41 .sp),.lo 43 .gr],.box 25 [.i .i64,.i .i64,.o 28 (.sl 41 .sp),.lo 43 .gr]]⟩:PS).mk' [.i y1,.i y2,.l (.sl 41 .sp) y3,.l .gr y4,.i y5,.i y6,.l (.sl 41 .sp) y7,.l .gr y8,.i y9,.i aa,.l (.sl 41 .sp) ab])))
noncomputable def fF.l3.g {γ:Type} (YK:HdK γ) (k:Nat) (K:gy→St→Option γ):List Lf→Option γ
  | [.i c1,.i c2,.i v3,.i v4,.i v5,.l (.sl 41 .sp) v6,.l .gr v7,.i v8,.i v9,.l (.sl 41 .sp) v10,.l .gr v11,.i v12,.i v13,.l (.sl 41 .sp) v14]=>let q:=fF.l3.c YK K;fF.l3 q.1 q.2 c1 c2 k v3 v4 v5 v6 v7 v8 v9 v10 v11 v12 v13 v14
  | _=>none
noncomputable def fF.C {γ:Type}:Ctx γ:=mkC (fun k=>mkE [(11,iy.m k),(46,iH.m k),(49,jl.m k),(73,jB.m k),(81,jc.m k),(83,jV.m k)] [84]) [(19,Tryz.f19),(45,Tryz.f45),(47,Tryz.f47),(48,Tryz.f48),(82,Tryz.f82),(84,Tryz.f84),(120,Tryz.f120)] [(19,mkA [23,27,77,87] [(0,[1,2,4,6,34,35,36])] [(0,[4,5,6])] []),(45,mkA [48,56,65,85,91] [(0,[1,2,4,6,7,8,27,28,29]),(2,[1,2,4,11,67,68])] [(0,[1,2,4,6,7,8]),(2,[4,5,11])] []),(47,mkA [19,55,58] [] [] [(1,[],[.mu (.bx 8 0)]),(7,[.op (.bx 8 0)],[.cl (.bx 8 0)]),(8,[.op (.bx 8 0)],[.cl (.bx 8 0)]),(11,[.fz (.bx 8 0)],[])]),(48,mkA [8] [] [] []),(82,mkA [8] [] [] []),(84,mkA [] [] [] []),(120,mkA [] [(0,[0,2,3,6,7])] [(0,[])] [])] [⟨2,120,0,jD [(fF.l4.p,fF.l4.g)]⟩,⟨3,120,0,jD [(fF.l1.p,fF.l1.g)]⟩,⟨4,45,0,jD [(fF.l2.p,fF.l2.g)]⟩,⟨4,45,2,jD [(fF.l3.p,fF.l3.g)]⟩,⟨5,19,0,jD [(fF.l0.p,fF.l0.g)]⟩] [⟨3,120,10,fF.y0T⟩,⟨2,120,12,fF.y1T⟩]
theorem fF.l1.eq {γ:Type} (YK:HdK γ) (rl:Option Nat) (K:gy→St→Option γ) (c1:Int):∀ k:Nat,(fun (v2:Int) (v3:Int) (v4:Int) (v5:List (List P.S41)) (v6:List P.S43) (v7:Int) (v8:Int) (v9:List (List P.S41)) (v10:List P.S43) (v11:Int) (v12:List P.S41) (v13:List P.S41) (v14:Int) (v15:Int)=>fF.C.lK 3 120 0 Tryz.f120 YK rl 11 k (fF.l1.p.mk' [.i c1,.i v2,.i v3,.i v4,.l (.sl 41 .sp) v5,.l .gr v6,.i v7,.i v8,.l (.sl 41 .sp) v9,.l .gr v10,.i v11,.l .sp v12,.l .sp v13,.i v14,.i v15]) K)=(fun (v2:Int) (v3:Int) (v4:Int) (v5:List (List P.S41)) (v6:List P.S43) (v7:Int) (v8:Int) (v9:List (List P.S41)) (v10:List P.S43) (v11:Int) (v12:List P.S41) (v13:List P.S41) (v14:Int) (v15:Int)=>fF.l1.g YK k K [.i c1,.i v2,.i v3,.i v4,.l (.sl 41 .sp) v5,.l .gr v6,.i v7,.i v8,.l (.sl 41 .sp) v9,.l .gr v10,.i v11,.l .sp v12,.l .sp v13,.i v14,.i v15]):=iO (fun R k v2 v3 v4 v5 v6 v7 v8 v9 v10 v11 v12 v13 v14 v15=>fF.l1T (fF.l1.c YK K).1 (fF.l1.c YK K).2.1 (fF.l1.c YK K).2.2 c1 R k v2 v3 v4 v5 v6 v7 v8 v9 v10 v11 v12 v13 v14 v15) (by kernel_rfl) (fun k=>by kernel_rfl) (fun k=>by kernel_rfl)
theorem fF.l0.eq {γ:Type} (YK:HdK γ) (rl:Option Nat) (K:gy→St→Option γ) (c1:Int) (c2:List P.S43) (c3:Int):∀ k:Nat,(fun (v4:Int) (v5:Int) (v6:Int) (v7:List (List P.S41)) (v8:List P.S43) (v9:Int) (v10:Int) (v11:List (List P.S41)) (v12:List P.S43)=>fF.C.lK 5 19 0 Tryz.f19 YK rl 3 k (fF.l0.p.mk' [.i c1,.l .gr c2,.i c3,.i v4,.i v5,.i v6,.l (.sl 41 .sp) v7,.l .gr v8,.i v9,.i v10,.l (.sl 41 .sp) v11,.l .gr v12]) K)=(fun (v4:Int) (v5:Int) (v6:Int) (v7:List (List P.S41)) (v8:List P.S43) (v9:Int) (v10:Int) (v11:List (List P.S41)) (v12:List P.S43)=>fF.l0.g YK k K [.i c1,.l .gr c2,.i c3,.i v4,.i v5,.i v6,.l (.sl 41 .sp) v7,.l .gr v8,.i v9,.i v10,.l (.sl 41 .sp) v11,.l .gr v12]):=iO (fun R k v4 v5 v6 v7 v8 v9 v10 v11 v12=>fF.l0T (fF.l0.c YK K).1 (fF.l0.c YK K).2 c1 c2 c3 R k v4 v5 v6 v7 v8 v9 v10 v11 v12) (by kernel_rfl) (fun k=>by kernel_rfl) (fun k=>by kernel_rfl)
theorem fF.l2.eq {γ:Type} (YK:HdK γ) (rl:Option Nat) (K:gy→St→Option γ) (c1:Int) (c2:Int) (c3:Int) (c5:List (List P.S41)) (c6:Int) (c8:Int) (c9:Int) (c10:List (List P.S41)) (c11:List P.S43) (c12:Int) (c13:Int) (c14:List (List P.S41)) (c15:List P.S43):∀ k:Nat,(fun (v4:Int) (v7:Int)=>fF.C.lK 4 45 0 Tryz.f45 YK rl 5 k (fF.l2.p.mk' [.i c1,.i c2,.i c3,.i v4,.l (.sl 41 .sp) c5,.i c6,.i v7,.i c8,.i c9,.l (.sl 41 .sp) c10,.l .gr c11,.i c12,.i c13,.l (.sl 41 .sp) c14,.l .gr c15]) K)=(fun (v4:Int) (v7:Int)=>fF.l2.g YK k K [.i c1,.i c2,.i c3,.i v4,.l (.sl 41 .sp) c5,.i c6,.i v7,.i c8,.i c9,.l (.sl 41 .sp) c10,.l .gr c11,.i c12,.i c13,.l (.sl 41 .sp) c14,.l .gr c15]):=iO (fun R k v4 v7=>fF.l2T (fF.l2.c YK K c1 c2 c3 c8 c9 c10 c11 c12 c13 c14 c15) c5 c6 R k v4 v7) (by kernel_rfl) (fun k=>by kernel_rfl) (fun k=>by kernel_rfl)
theorem fF.l4.eq {γ:Type} (YK:HdK γ) (rl:Option Nat) (K:gy→St→Option γ) (c1:Int):∀ k:Nat,(fun (v2:Int) (v3:Int) (v4:Int) (v5:List (List P.S41)) (v6:List P.S43) (v7:Int) (v8:Int) (v9:List (List P.S41)) (v10:List P.S43) (v11:Int) (v12:Int) (v13:List (List P.S41)) (v14:List P.S41) (v15:Int) (v16:Int)=>fF.C.lK 2 120 0 Tryz.f120 YK rl 13 k (fF.l4.p.mk' [.i c1,.i v2,.i v3,.i v4,.l (.sl 41 .sp) v5,.l .gr v6,.i v7,.i v8,.l (.sl 41 .sp) v9,.l .gr v10,.i v11,.i v12,.l (.sl 41 .sp) v13,.l .sp v14,.i v15,.i v16]) K)=(fun (v2:Int) (v3:Int) (v4:Int) (v5:List (List P.S41)) (v6:List P.S43) (v7:Int) (v8:Int) (v9:List (List P.S41)) (v10:List P.S43) (v11:Int) (v12:Int) (v13:List (List P.S41)) (v14:List P.S41) (v15:Int) (v16:Int)=>fF.l4.g YK k K [.i c1,.i v2,.i v3,.i v4,.l (.sl 41 .sp) v5,.l .gr v6,.i v7,.i v8,.l (.sl 41 .sp) v9,.l .gr v10,.i v11,.i v12,.l (.sl 41 .sp) v13,.l .sp v14,.i v15,.i v16]):=iO (fun R k v2 v3 v4 v5 v6 v7 v8 v9 v10 v11 v12 v13 v14 v15 v16=>fF.l4T (fF.l4.c YK K).1 (fF.l4.c YK K).2.1 (fF.l4.c YK K).2.2 c1 R k v2 v3 v4 v5 v6 v7 v8 v9 v10 v11 v12 v13 v14 v15 v16) (by kernel_rfl) (fun k=>by kernel_rfl) (fun k=>by kernel_rfl)
theorem fF.l3.eq {γ:Type} (YK:HdK γ) (rl:Option Nat) (K:gy→St→Option γ) (c1:Int) (c2:Int):∀ k:Nat,(fun (v3:Int) (v4:Int) (v5:Int) (v6:List (List P.S41)) (v7:List P.S43) (v8:Int) (v9:Int) (v10:List (List P.S41)) (v11:List P.S43) (v12:Int) (v13:Int) (v14:List (List P.S41))=>fF.C.lK 4 45 2 Tryz.f45 YK rl 6 k (fF.l3.p.mk' [.i c1,.i c2,.i v3,.i v4,.i v5,.l (.sl 41 .sp) v6,.l .gr v7,.i v8,.i v9,.l (.sl 41 .sp) v10,.l .gr v11,.i v12,.i v13,.l (.sl 41 .sp) v14]) K)=(fun (v3:Int) (v4:Int) (v5:Int) (v6:List (List P.S41)) (v7:List P.S43) (v8:Int) (v9:Int) (v10:List (List P.S41)) (v11:List P.S43) (v12:Int) (v13:Int) (v14:List (List P.S41))=>fF.l3.g YK k K [.i c1,.i c2,.i v3,.i v4,.i v5,.l (.sl 41 .sp) v6,.l .gr v7,.i v8,.i v9,.l (.sl 41 .sp) v10,.l .gr v11,.i v12,.i v13,.l (.sl 41 .sp) v14]):=iO (fun R k v3 v4 v5 v6 v7 v8 v9 v10 v11 v12 v13 v14=>fF.l3T (fF.l3.c YK K).1 (fF.l3.c YK K).2 c1 c2 R k v3 v4 v5 v6 v7 v8 v9 v10 v11 v12 v13 v14) (by kernel_rfl) (fun k=>by kernel_rfl) (fun k=>by kernel_rfl)
theorem fF.iI {γ:Type}:(fF.C (γ:=γ)).Ok:=⟨(all_cons (fun k=>by kernel_rfl) (all_cons (fun k=>by kernel_rfl) (all_cons (fun k=>by kernel_rfl) (all_cons (fun k=>by kernel_rfl) (all_cons (fun k=>by kernel_rfl) (all_cons (fun k=>by kernel_rfl) (all_cons (fun k=>by kernel_rfl) all_nil))))))),(all_cons (by kernel_rfl) (all_cons (by kernel_rfl) (all_cons (by kernel_rfl) (all_cons (by kernel_rfl) (all_cons (by kernel_rfl) (all_cons (by kernel_rfl) (all_cons (by kernel_rfl) all_nil))))))),(all_cons fF.ni (all_cons fF.vM all_nil))⟩
theorem fF.e0 {γ:Type}:iX (fF.C (γ:=γ)) ⟨2,120,0,jD [(fF.l4.p,fF.l4.g)]⟩:=fF.iI.lT Tryz.f120 [] (by kernel_rfl) (by kernel_rfl) (by kernel_rfl) (all_cons jA (all_cons jA (all_cons jA (all_cons jA (all_cons jA all_nil))))) (all_cons (fun YK rl k ls K v hv=>(show fF.l4.g YK k K ls=some v→_ from fun hv=>by
  unfold fF.l4.g at hv;split at hv
  · exact (congrFun (congrFun (congrFun (congrFun (congrFun (congrFun (congrFun (congrFun (congrFun (congrFun (congrFun (congrFun (congrFun (congrFun (congrFun (fF.l4.eq YK rl K _ k) _) _) _) _) _) _) _) _) _) _) _) _) _) _) _).trans hv
  · cases hv) hv) all_nil)
theorem fF.e1 {γ:Type}:iX (fF.C (γ:=γ)) ⟨3,120,0,jD [(fF.l1.p,fF.l1.g)]⟩:=fF.iI.lT Tryz.f120 [] (by kernel_rfl) (by kernel_rfl) (by kernel_rfl) (all_cons (fun _=>fF.e0) (all_cons jA (all_cons jA (all_cons jA (all_cons jA all_nil))))) (all_cons (fun YK rl k ls K v hv=>(show fF.l1.g YK k K ls=some v→_ from fun hv=>by
  unfold fF.l1.g at hv;split at hv
  · exact (congrFun (congrFun (congrFun (congrFun (congrFun (congrFun (congrFun (congrFun (congrFun (congrFun (congrFun (congrFun (congrFun (congrFun (fF.l1.eq YK rl K _ k) _) _) _) _) _) _) _) _) _) _) _) _) _) _).trans hv
  · cases hv) hv) all_nil)
theorem fF.e2 {γ:Type}:iX (fF.C (γ:=γ)) ⟨4,45,0,jD [(fF.l2.p,fF.l2.g)]⟩:=fF.iI.lT Tryz.f45 [] (by kernel_rfl) (by kernel_rfl) (by kernel_rfl) (all_cons (fun _=>fF.e0) (all_cons (fun _=>fF.e1) (all_cons jA (all_cons jA (all_cons jA all_nil))))) (all_cons (fun YK rl k ls K v hv=>(show fF.l2.g YK k K ls=some v→_ from fun hv=>by
  unfold fF.l2.g at hv;split at hv
  · exact (congrFun (congrFun (fF.l2.eq YK rl K _ _ _ _ _ _ _ _ _ _ _ _ _ k) _) _).trans hv
  · cases hv) hv) all_nil)
theorem fF.e3 {γ:Type}:iX (fF.C (γ:=γ)) ⟨4,45,2,jD [(fF.l3.p,fF.l3.g)]⟩:=fF.iI.lT Tryz.f45 [] (by kernel_rfl) (by kernel_rfl) (by kernel_rfl) (all_cons (fun _=>fF.e0) (all_cons (fun _=>fF.e1) (all_cons jA (all_cons jA (all_cons jA all_nil))))) (all_cons (fun YK rl k ls K v hv=>(show fF.l3.g YK k K ls=some v→_ from fun hv=>by
  unfold fF.l3.g at hv;split at hv
  · exact (congrFun (congrFun (congrFun (congrFun (congrFun (congrFun (congrFun (congrFun (congrFun (congrFun (congrFun (congrFun (fF.l3.eq YK rl K _ _ k) _) _) _) _) _) _) _) _) _) _) _) _).trans hv
  · cases hv) hv) all_nil)
theorem fF.e4 {γ:Type}:iX (fF.C (γ:=γ)) ⟨5,19,0,jD [(fF.l0.p,fF.l0.g)]⟩:=fF.iI.lT Tryz.f19 [] (by kernel_rfl) (by kernel_rfl) (by kernel_rfl) (all_cons (fun _=>fF.e0) (all_cons (fun _=>fF.e1) (all_cons (fun _=>fF.e2) (all_cons (fun _=>fF.e3) (all_cons jA all_nil))))) (all_cons (fun YK rl k ls K v hv=>(show fF.l0.g YK k K ls=some v→_ from fun hv=>by
  unfold fF.l0.g at hv;split at hv
  · exact (congrFun (congrFun (congrFun (congrFun (congrFun (congrFun (congrFun (congrFun (congrFun (fF.l0.eq YK rl K _ _ _ k) _) _) _) _) _) _) _) _) _).trans hv
  · cases hv) hv) all_nil)
theorem fF.ok (k:Nat):jK Tryz.prog 19 (fF.m k).s:=okW fF.iI 5 Tryz.f19 k (all_cons ⟨Tryz.f84,Tryz.func84,by kernel_rfl⟩ all_nil) (fun k=>all_cons (iy.ok k) (all_cons (iH.ok k) (all_cons (jl.ok k) (all_cons (jB.ok k) (all_cons (jc.ok k) (all_cons (jV.ok k) (all_nil))))))) (all_cons ⟨Tryz.func19,by kernel_rfl⟩ (all_cons ⟨Tryz.func45,by kernel_rfl⟩ (all_cons ⟨Tryz.func47,by kernel_rfl⟩ (all_cons ⟨Tryz.func48,by kernel_rfl⟩ (all_cons ⟨Tryz.func82,by kernel_rfl⟩ (all_cons ⟨Tryz.func84,by kernel_rfl⟩ (all_cons ⟨Tryz.func120,by kernel_rfl⟩ all_nil))))))) (all_cons fF.e0 (all_cons fF.e1 (all_cons fF.e2 (all_cons fF.e3 (all_cons fF.e4 all_nil))))) (by kernel_rfl) (by kernel_rfl) (fun a=>by kernel_rfl)
noncomputable def jG.m (k:Nat):Sm:=jN [.fm,(.int .i64)] [.pl .sp,.pl .bool] (fun a=>jG.f k a.1.f0 a.1.f1 a.1.f2 a.1.f3 a.2.1)
noncomputable def jG.C {γ:Type}:Ctx γ:=mkC (fun k=>mkE [(40,iK.m k),(52,iE.m k)] []) [(26,Tryz.f26)] [(26,mkA [10] [] [] [])] [] []
theorem jG.iI {γ:Type}:(jG.C (γ:=γ)).Ok:=⟨(all_cons (fun k=>by kernel_rfl) all_nil),(all_cons (by kernel_rfl) all_nil),all_nil⟩
theorem jG.ok (k:Nat):jK Tryz.prog 26 (jG.m k).s:=okW jG.iI 0 Tryz.f26 k all_nil (fun k=>all_cons (iK.ok k) (all_cons (iE.ok k) (all_nil))) (all_cons ⟨Tryz.func26,by kernel_rfl⟩ all_nil) all_nil (by kernel_rfl) (by kernel_rfl) (fun a=>by kernel_rfl)
noncomputable def jy.m (k:Nat):Sm:=jN [.fm] [.pl (.int .i64),.pl (.int .i64),.pl .bool] (fun a=>jy.f k a.1.f0 a.1.f1 a.1.f2 a.1.f3)
noncomputable def jy.C {γ:Type}:Ctx γ:=mkC (fun k=>mkE [(50,fI.m k),(98,fJ.m k)] []) [(59,Tryz.f59)] [(59,mkA [] [] [] [])] [] []
theorem jy.iI {γ:Type}:(jy.C (γ:=γ)).Ok:=⟨(all_cons (fun k=>by kernel_rfl) all_nil),(all_cons (by kernel_rfl) all_nil),all_nil⟩
theorem jy.ok (k:Nat):jK Tryz.prog 59 (jy.m k).s:=okW jy.iI 0 Tryz.f59 k all_nil (fun k=>all_cons (fI.ok k) (all_cons (fJ.ok k) (all_nil))) (all_cons ⟨Tryz.func59,by kernel_rfl⟩ all_nil) all_nil (by kernel_rfl) (by kernel_rfl) (fun a=>by kernel_rfl)
noncomputable def jo.m (k:Nat):Sm:=jN [.fm,(.int .i64)] [.pl (.int .i64),.pl .bool] (fun a=>jo.f k a.1.f0 a.1.f1 a.1.f2 a.1.f3 a.2.1)
noncomputable def jo.C {γ:Type}:Ctx γ:=mkC (fun k=>mkE [(59,jy.m k),(60,iA.m k)] []) [(28,Tryz.f28)] [(28,mkA [] [] [] [])] [] []
theorem jo.iI {γ:Type}:(jo.C (γ:=γ)).Ok:=⟨(all_cons (fun k=>by kernel_rfl) all_nil),(all_cons (by kernel_rfl) all_nil),all_nil⟩
theorem jo.ok (k:Nat):jK Tryz.prog 28 (jo.m k).s:=okW jo.iI 0 Tryz.f28 k all_nil (fun k=>all_cons (jy.ok k) (all_cons (iA.ok k) (all_nil))) (all_cons ⟨Tryz.func28,by kernel_rfl⟩ all_nil) all_nil (by kernel_rfl) (by kernel_rfl) (fun a=>by kernel_rfl)
noncomputable def iR.m (k:Nat):Sm:=jN [] [.pl .fm] (fun a=>iR.f k)
noncomputable def iR.C {γ:Type}:Ctx γ:=mkC (fun k=>mkE [] []) [(36,Tryz.f36)] [(36,mkA [] [] [] [])] [] []
theorem iR.iI {γ:Type}:(iR.C (γ:=γ)).Ok:=⟨(all_cons (fun k=>by kernel_rfl) all_nil),(all_cons (by kernel_rfl) all_nil),all_nil⟩
theorem iR.ok (k:Nat):jK Tryz.prog 36 (iR.m k).s:=okW iR.iI 0 Tryz.f36 k all_nil (fun k=>all_nil) (all_cons ⟨Tryz.func36,by kernel_rfl⟩ all_nil) all_nil (by kernel_rfl) (by kernel_rfl) (fun a=>by kernel_rfl)
end Go.Proofs.YtongeknogcboiaaGreat.R
namespace Go.Proofs.YtongeknogcboiaaGreat.R
open M Go.RowKit Go.Proofs.YtongeknogcboiaaGreatW.fP Go.Proofs.YtongeknogcboiaaGreatW.gK Go.Proofs.YtongeknogcboiaaGreatW.iD
set_option linter.unusedVariables false
noncomputable def fZ.m (k:Nat):Sm:=jN [] [.pl .bool] (fun a=>fZ.f k)
noncomputable def fZ.l0.p:PS:=⟨[nO,.one (.bp 0 0),.one (.bp 1 0),.one (.bp 2 0),nO,.one (.bp 3 0)]++nOs 88,[.box 25 [.i .i64,.i .i64,.s (.sl 41 .sp),.s .gr],.box 25 [.i .i64,.i .i64,.s (.sl 41 .sp),.s .gr],.box 25 [.i .i64,.i .i64,.s (.sl 41 .sp),.s .gr],.box 25 [.i .i64,.i .i64,.s (.sl 41 .sp),.s .gr],.box 41 [.i .i64,.i .i64]]⟩
noncomputable def fZ.l0.c {γ:Type} (YK:HdK γ) (K:gy→St→Option γ)  := ((fun y1 y2 y3 y4 y5 y6 y7 y8 y9 aa ab ac y13 af ah ai aj ak al=>K .ret ((⟨[.one (.b)]++nOs 93,[.box 25 [.i .i64,.i .i64,.s (.sl 41 .sp),.s .gr],.box 25 [.i .i64,.i .i64,.s (.sl 41 .sp),.s .gr],.box 25 [.i .i64,.i .i64,.s (.sl 41 .sp),.s .gr],.box 25 [.i .i64,.i .i64,.s (.sl 41 .sp),.s .gr],.box 41 [.i .i64,.i .i64],.box 3 [.li .i64 1],.box 4 [.lb true],.box 3 [.li .i64 7],.box 3 [.li .i64 11],.box 4 [.lb true],.box 3 [.li .i64 0],.box 4 [.lb false],.box 3 [.li .i64 0],.box 4 [.lb false],.box 3 [.li .i64 0],.box 3 [.li .i64 1],.box 4 [.lb true],.box 3 [.li .i64 0],.box 4 [.lb true]]⟩:PS).mk' [.b y1,.i y2,.i y3,.l (.sl 41 .sp) y4,.l .gr y5,.i y6,.i y7,.l (.sl 41 .sp) y8,.l .gr y9,.i aa,.i ab,.l (.sl 41 .sp) ac,.l .gr y13,.i af,.i ah,.l (.sl 41 .sp) ai,.l .gr aj,.i ak,.i al])),(fun y1 y2 y3 y4 y5 y6 y7 y8 y9 aa ab ac y13 af ah ai aj ak=>K .ret ((⟨[.one (.lb false)]++nOs 93,[.box 25 [.i .i64,.i .i64,.s (.sl 41 .sp),.s .gr],.box 25 [.i .i64,.i .i64,.s (.sl 41 .sp),.s .gr],.box 25 [.i .i64,.i .i64,.s (.sl 41 .sp),.s .gr],.box 25 [.i .i64,.i .i64,.s (.sl 41 .sp),.s .gr],.box 41 [.i .i64,.i .i64],.box 3 [.li .i64 1],.box 4 [.lb true],.box 3 [.li .i64 7],.box 3 [.li .i64 11],.box 4 [.lb true],.box 3 [.li .i64 0],.box 4 [.lb false],.box 3 [.li .i64 0],.box 4 [.lb false],.box 3 [.li .i64 0],.box 3 [.li .i64 1],.box 4 [.lb true],.box 3 [.li .i64 0],.box 4 [.lb true]]⟩:PS).mk' [.i y1,.i y2,.l (.sl 41 .sp) y3,.l .gr y4,.i y5,.i y6,.l (.sl 41 .sp) y7,.l .gr y8,.i y9,.i aa,.l (.sl 41 .sp) ab,.l .gr ac,.i y13,.i af,.l (.sl 41 .sp) ah,.l .gr ai,.i aj,.i ak])),(fun y1 y2 y3 y4 y5 y6 y7 y8 y9 aa ab ac y13 af ah ai aj ak=>K .ret ((⟨[.one (.lb false)]++nOs 93,[.box 25 [.i .i64,.i .i64,.s (.sl 41 .sp),.s .gr],.box 25 [.i .i64,.i .i64,.s (.sl 41 .sp),.s .gr],.box 25 [.i .i64,.i .i64,.s (.sl 41 .sp),.s .gr],.box 25 [.i .i64,.i .i64,.s (.sl 41 .sp),.s .gr],.box 41 [.i .i64,.i .i64],.box 3 [.li .i64 1],.box 4 [.lb true],.box 3 [.li .i64 7],.box 3 [.li .i64 11],.box 4 [.lb true],.box 3 [.li .i64 0],.box 4 [.lb false],.box 3 [.li .i64 0],.box 4 [.lb false],.box 3 [.li .i64 0],.box 3 [.li .i64 1],.box 4 [.lb true]]⟩:PS).mk' [.i y1,.i y2,.l (.sl 41 .sp) y3,.l .gr y4,.i y5,.i y6,.l (.sl 41 .sp) y7,.l .gr y8,.i y9,.i aa,.l (.sl 41 .sp) ab,.l .gr ac,.i y13,.i af,.l (.sl 41 .sp) ah,.l .gr ai,.i aj,.i ak])),(fun y1 y2 y3 y4 y5 y6 y7 y8 y9 aa ab ac y13 af ah ai aj ak=>K .ret ((⟨[.one (.lb false)]++nOs 93,[.box 25 [.i .i64,.i .i64,.s (.sl 41 .sp),.s .gr],.box 25 [.i .i64,.i .i64,.s (.sl 41 .sp),.s .gr],.box 25 [.i .i64,.i .i64,.s (.sl 41 .sp),.s .gr],.box 25 [.i .i64,.i .i64,.s (.sl 41 .sp),.s .gr],.box 41 [.i .i64,.i .i64],.box 3 [.li .i64 1],.box 4 [.lb true],.box 3 [.li .i64 7],.box 3 [.li .i64 11],.box 4 [.lb true],.box 3 [.li .i64 0],.box 4 [.lb false],.box 3 [.li .i64 0],.box 4 [.lb false]]⟩:PS).mk' [.i y1,.i y2,.l (.sl 41 .sp) y3,.l .gr y4,.i y5,.i y6,.l (.sl 41 .sp) y7,.l .gr y8,.i y9,.i aa,.l (.sl 41 .sp) ab,.l .gr ac,.i y13,.i af,.l (.sl 41 .sp) ah,.l .gr ai,.i aj,.i ak])),(fun y1 y2 y3 y4 y5 y6 y7 y8 y9 aa ab ac y13 af ah ai aj ak=>K .ret ((⟨[.one (.lb false)]++nOs 93,[.box 25 [.i .i64,.i .i64,.s (.sl 41 .sp),.s .gr],.box 25 [.i .i64,.i .i64,.s (.sl 41 .sp),.s .gr],.box 25 [.i .i64,.i .i64,.s (.sl 41 .sp),.s .gr],.box 25 [.i .i64,.i .i64,.s (.sl 41 .sp),.s .gr],.box 41 [.i .i64,.i .i64],.box 3 [.li .i64 1],.box 4 [.lb true],.box 3 [.li .i64 7],.box 3 [.li .i64 11],.box 4 [.lb true],.box 3 [.li .i64 0],.box 4 [.lb false]]⟩:PS).mk' [.i y1,.i y2,.l (.sl 41 .sp) y3,.l .gr y4,.i y5,.i y6,.l (.sl 41 .sp) y7,.l .gr y8,.i y9,.i aa,.l (.sl 41 .sp) ab,.l .gr ac,.i y13,.i af,.l (.sl 41 .sp) ah,.l .gr ai,.i aj,.i ak])),(fun y1 y2 y3 y4 y5 y6 y7 y8 y9 aa ab ac y13 af ah ai aj ak=>K .ret ((⟨[.one (.lb false)]++nOs 93,[.box 25 [.i .i64,.i .i64,.s (.sl 41 .sp),.s .gr],.box 25 [.i .i64,.i .i64,.s (.sl 41 .sp),.s .gr],.box 25 [.i .i64,.i .i64,.s (.sl 41 .sp),.s .gr],.box 25 [.i .i64,.i .i64,.s (.sl 41 .sp),.s .gr],.box 41 [.i .i64,.i .i64],.box 3 [.li .i64 1],.box 4 [.lb true],.box 3 [.li .i64 7],.box 3 [.li .i64 11],.box 4 [.lb true]]⟩:PS).mk' [.i y1,.i y2,.l (.sl 41 .sp) y3,.l .gr y4,.i y5,.i y6,.l (.sl 41 .sp) y7,.l .gr y8,.i y9,.i aa,.l (.sl 41 .sp) ab,.l .gr ac,.i y13,.i af,.l (.sl 41 .sp) ah,.l .gr ai,.i aj,.i ak])),(fun y1 y2 y3 y4 y5 y6 y7 y8 y9 aa ab ac y13 af ah ai aj ak=>K .ret ((⟨[.one (.lb false)]++nOs 93,[.box 25 [.i .i64,.i .i64,.s (.sl 41 .sp),.s .gr],.box 25 [.i .i64,.i .i64,.s (.sl 41 .sp),.s .gr],.box 25 [.i .i64,.i .i64,.s (.sl 41 .sp),.s .gr],.box 25 [.i .i64,.i .i64,.s (.sl 41 .sp),.s .gr],.box 41 [.i .i64,.i .i64],.box 3 [.li .i64 1],.box 4 [.lb true]]⟩:PS).mk' [.i y1,.i y2,.l (.sl 41 .sp) y3,.l .gr y4,.i y5,.i y6,.l (.sl 41 .sp) y7,.l .gr y8,.i y9,.i aa,.l (.sl 41 .sp) ab,.l .gr ac,.i y13,.i af,.l (.sl 41 .sp) ah,.l .gr ai,.i aj,.i ak])))
noncomputable def fZ.l0.g {γ:Type} (YK:HdK γ) (k:Nat) (K:gy→St→Option γ):List Lf→Option γ
  | [.i v1,.i v2,.l (.sl 41 .sp) v3,.l .gr v4,.i v5,.i v6,.l (.sl 41 .sp) v7,.l .gr v8,.i v9,.i v10,.l (.sl 41 .sp) v11,.l .gr v12,.i v13,.i v14,.l (.sl 41 .sp) v15,.l .gr v16,.i v17,.i v18]=>let q:=fZ.l0.c YK K;fZ.l0 q.1 q.2.1 q.2.2.1 q.2.2.2.1 q.2.2.2.2.1 q.2.2.2.2.2.1 q.2.2.2.2.2.2 k v1 v2 v3 v4 v5 v6 v7 v8 v9 v10 v11 v12 v13 v14 v15 v16 v17 v18
  | _=>none
noncomputable def fZ.C {γ:Type}:Ctx γ:=mkC (fun k=>mkE [(12,jC.m k),(13,fG.m k),(15,fH.m k),(16,iV.m k),(19,fF.m k),(26,jG.m k),(28,jo.m k),(36,iR.m k)] [17,18]) [(10,Tryz.f10),(17,Tryz.f17),(18,Tryz.f18),(43,Tryz.f43),(44,Tryz.f44)] [(10,mkA [] [(1000022,[1,2,3,5])] [(1000022,[0])] []),(17,mkA [] [] [] []),(18,mkA [] [] [] []),(43,mkA [] [] [] []),(44,mkA [] [] [] [])] [⟨1,10,1000022,jD [(fZ.l0.p,fZ.l0.g)]⟩] []
theorem fZ.l0.eq {γ:Type} (YK:HdK γ) (rl:Option Nat) (K:gy→St→Option γ) (k:Nat) (v1:Int) (v2:Int) (v3:List (List P.S41)) (v4:List P.S43) (v5:Int) (v6:Int) (v7:List (List P.S41)) (v8:List P.S43) (v9:Int) (v10:Int) (v11:List (List P.S41)) (v12:List P.S43) (v13:Int) (v14:Int) (v15:List (List P.S41)) (v16:List P.S43) (v17:Int) (v18:Int):fZ.C.lK 1 10 1000022 Tryz.f10 YK rl 5 k (fZ.l0.p.mk' [.i v1,.i v2,.l (.sl 41 .sp) v3,.l .gr v4,.i v5,.i v6,.l (.sl 41 .sp) v7,.l .gr v8,.i v9,.i v10,.l (.sl 41 .sp) v11,.l .gr v12,.i v13,.i v14,.l (.sl 41 .sp) v15,.l .gr v16,.i v17,.i v18]) K=fZ.l0.g YK k K [.i v1,.i v2,.l (.sl 41 .sp) v3,.l .gr v4,.i v5,.i v6,.l (.sl 41 .sp) v7,.l .gr v8,.i v9,.i v10,.l (.sl 41 .sp) v11,.l .gr v12,.i v13,.i v14,.l (.sl 41 .sp) v15,.l .gr v16,.i v17,.i v18]:=by kernel_rfl
theorem fZ.iI {γ:Type}:(fZ.C (γ:=γ)).Ok:=⟨(all_cons (fun k=>by kernel_rfl) (all_cons (fun k=>by kernel_rfl) (all_cons (fun k=>by kernel_rfl) (all_cons (fun k=>by kernel_rfl) (all_cons (fun k=>by kernel_rfl) all_nil))))),(all_cons (by kernel_rfl) (all_cons (by kernel_rfl) (all_cons (by kernel_rfl) (all_cons (by kernel_rfl) (all_cons (by kernel_rfl) all_nil))))),all_nil⟩
theorem fZ.e0 {γ:Type}:iX (fZ.C (γ:=γ)) ⟨1,10,1000022,jD [(fZ.l0.p,fZ.l0.g)]⟩:=fZ.iI.lT Tryz.f10 [] (by kernel_rfl) (by kernel_rfl) (by kernel_rfl) (all_cons jA all_nil) (all_cons (fun YK rl k ls K v hv=>(show fZ.l0.g YK k K ls=some v→_ from fun hv=>by
  unfold fZ.l0.g at hv;split at hv
  · exact (fZ.l0.eq YK rl K k _ _ _ _ _ _ _ _ _ _ _ _ _ _ _ _ _ _).trans hv
  · cases hv) hv) all_nil)
theorem fZ.ok (k:Nat):jK Tryz.prog 10 (fZ.m k).s:=okW fZ.iI 1 Tryz.f10 k (all_cons ⟨Tryz.f17,Tryz.func17,by kernel_rfl⟩ (all_cons ⟨Tryz.f18,Tryz.func18,by kernel_rfl⟩ all_nil)) (fun k=>all_cons (jC.ok k) (all_cons (fG.ok k) (all_cons (fH.ok k) (all_cons (iV.ok k) (all_cons (fF.ok k) (all_cons (jG.ok k) (all_cons (jo.ok k) (all_cons (iR.ok k) (all_nil))))))))) (all_cons ⟨Tryz.func10,by kernel_rfl⟩ (all_cons ⟨Tryz.func17,by kernel_rfl⟩ (all_cons ⟨Tryz.func18,by kernel_rfl⟩ (all_cons ⟨Tryz.func43,by kernel_rfl⟩ (all_cons ⟨Tryz.func44,by kernel_rfl⟩ all_nil))))) (all_cons fZ.e0 all_nil) (by kernel_rfl) (by kernel_rfl) (fun a=>by kernel_rfl)
noncomputable def jL.m (k:Nat):Sm:=jN [.fm,(.int .i64)] [.pl (.int .i64),.pl .bool] (fun a=>jL.f k a.1.f0 a.1.f1 a.1.f2 a.1.f3 a.2.1)
noncomputable def jL.C {γ:Type}:Ctx γ:=mkC (fun k=>mkE [(59,jy.m k),(61,iB.m k)] []) [(30,Tryz.f30)] [(30,mkA [] [] [] [])] [] []
theorem jL.iI {γ:Type}:(jL.C (γ:=γ)).Ok:=⟨(all_cons (fun k=>by kernel_rfl) all_nil),(all_cons (by kernel_rfl) all_nil),all_nil⟩
theorem jL.ok (k:Nat):jK Tryz.prog 30 (jL.m k).s:=okW jL.iI 0 Tryz.f30 k all_nil (fun k=>all_cons (jy.ok k) (all_cons (iB.ok k) (all_nil))) (all_cons ⟨Tryz.func30,by kernel_rfl⟩ all_nil) all_nil (by kernel_rfl) (by kernel_rfl) (fun a=>by kernel_rfl)
noncomputable def fE.m (k:Nat):Sm:=jN [.fm,.fm,(.int .i64)] [.pl .bool] (fun a=>fE.f k a.1.f0 a.1.f1 a.1.f2 a.1.f3 a.2.1.f0 a.2.1.f1 a.2.1.f2 a.2.1.f3 a.2.2.1)
noncomputable def fE.l2.p:PS:=⟨[nO,nO,.one (.i .i64),.one (.bp 0 0),.one (.bp 1 0),nO,nO,.one (.s .sp),.one (.i .i64),nO,.one (.bp 2 0),nO,.one (.i .i64)]++nOs 34++[.one (.lf 60 [(⟨15,14⟩:(FuncId × FuncId)),(⟨13,32⟩:(FuncId × FuncId))]),.one (.li .i64 2),.one (.li .i64 0)]++nOs 164,[.box 25 [.i .i64,.i .i64,.s (.sl 41 .sp),.s .gr],.box 25 [.i .i64,.i .i64,.s (.sl 41 .sp),.s .gr],.box 60 [.fn 15 [],.fn 14 []]]⟩
noncomputable def fE.l2.c {γ:Type} (YK:HdK γ) (K:gy→St→Option γ)  := ((fun y1 y2 y3 y4 y5 y6 y7 y8 y9 aa ab=>K .ret ((⟨[nO,nO,.one (.i .i64),.one (.bp 0 0),.one (.bp 1 0),nO,.one (.lb false),.one (.s .sp),.one (.i .i64)]++nOs 38++[.one (.lf 60 [(⟨15,14⟩:(FuncId × FuncId)),(⟨13,32⟩:(FuncId × FuncId))]),.one (.li .i64 2),.one (.li .i64 0)]++nOs 164,[.box 25 [.i .i64,.i .i64,.s (.sl 41 .sp),.s .gr],.box 25 [.i .i64,.i .i64,.s (.sl 41 .sp),.s .gr],.box 60 [.fn 15 [],.fn 14 []]]⟩:PS).mk' [.i y1,.l .sp y2,.i y3,.i y4,.i y5,.l (.sl 41 .sp) y6,.l .gr y7,.i y8,.i y9,.l (.sl 41 .sp) aa,.l .gr ab])),(fun y1 y2 y3 y4 y5 y6 y7 y8 y9 aa ab=>K .normal ((⟨[nO,nO,.one (.i .i64),.one (.bp 0 0),.one (.bp 1 0),nO,nO,.one (.s .sp),.one (.i .i64)]++nOs 38++[.one (.lf 60 [(⟨15,14⟩:(FuncId × FuncId)),(⟨13,32⟩:(FuncId × FuncId))]),.one (.li .i64 2),.one (.li .i64 0)]++nOs 164,[.box 25 [.i .i64,.i .i64,.s (.sl 41 .sp),.s .gr],.box 25 [.i .i64,.i .i64,.s (.sl 41 .sp),.s .gr],.box 60 [.fn 15 [],.fn 14 []]]⟩:PS).mk' [.i y1,.l .sp y2,.i y3,.i y4,.i y5,.l (.sl 41 .sp) y6,.l .gr y7,.i y8,.i y9,.l (.sl 41 .sp) aa,.l .gr ab])))
noncomputable def fE.l2.g {γ:Type} (YK:HdK γ) (k:Nat) (K:gy→St→Option γ):List Lf→Option γ
  | [.i v1,.l .sp v2,.i v3,.i v4,.i v5,.i v6,.l (.sl 41 .sp) v7,.l .gr v8,.i v9,.i v10,.l (.sl 41 .sp) v11,.l .gr v12]=>let q:=fE.l2.c YK K;fE.l2 q.1 q.2 k v1 v2 v3 v4 v5 v6 v7 v8 v9 v10 v11 v12
  | _=>none
noncomputable def fE.l1.p:PS:=⟨[nO,nO,.one (.i .i64),.one (.bp 0 0),.one (.bp 1 0),nO,nO,.one (.s .sp),.one (.i .i64),nO,.one (.bp 2 0),.one (.i .i64),.one (.i .i64)]++nOs 34++[.one (.lf 60 [(⟨15,14⟩:(FuncId × FuncId)),(⟨13,32⟩:(FuncId × FuncId))]),.one (.li .i64 2),.one (.li .i64 0)]++nOs 164,[.box 25 [.i .i64,.i .i64,.s (.sl 41 .sp),.s .gr],.box 25 [.i .i64,.i .i64,.s (.sl 41 .sp),.s .gr],.box 60 [.fn 15 [],.fn 14 []]]⟩
noncomputable def fE.l1.c {γ:Type} (YK:HdK γ) (K:gy→St→Option γ)  := ((fun y1 y2 y3 y4 y5 y6 y7 y8 y9 aa ab=>K .ret ((⟨[nO,nO,.one (.i .i64),.one (.bp 0 0),.one (.bp 1 0),nO,.one (.lb false),.one (.s .sp),.one (.i .i64)]++nOs 38++[.one (.lf 60 [(⟨15,14⟩:(FuncId × FuncId)),(⟨13,32⟩:(FuncId × FuncId))]),.one (.li .i64 2),.one (.li .i64 0)]++nOs 164,[.box 25 [.i .i64,.i .i64,.s (.sl 41 .sp),.s .gr],.box 25 [.i .i64,.i .i64,.s (.sl 41 .sp),.s .gr],.box 60 [.fn 15 [],.fn 14 []]]⟩:PS).mk' [.i y1,.l .sp y2,.i y3,.i y4,.i y5,.l (.sl 41 .sp) y6,.l .gr y7,.i y8,.i y9,.l (.sl 41 .sp) aa,.l .gr ab])),(fun y1 y2 y3 y4 y5 y6 y7 y8 y9 aa ab=>K .normal ((⟨[nO,nO,.one (.i .i64),.one (.bp 0 0),.one (.bp 1 0),nO,nO,.one (.s .sp),.one (.i .i64)]++nOs 38++[.one (.lf 60 [(⟨15,14⟩:(FuncId × FuncId)),(⟨13,32⟩:(FuncId × FuncId))]),.one (.li .i64 2),.one (.li .i64 0)]++nOs 164,[.box 25 [.i .i64,.i .i64,.s (.sl 41 .sp),.s .gr],.box 25 [.i .i64,.i .i64,.s (.sl 41 .sp),.s .gr],.box 60 [.fn 15 [],.fn 14 []]]⟩:PS).mk' [.i y1,.l .sp y2,.i y3,.i y4,.i y5,.l (.sl 41 .sp) y6,.l .gr y7,.i y8,.i y9,.l (.sl 41 .sp) aa,.l .gr ab])))
noncomputable def fE.l1.g {γ:Type} (YK:HdK γ) (k:Nat) (K:gy→St→Option γ):List Lf→Option γ
  | [.i v1,.l .sp v2,.i v3,.i v4,.i v5,.i v6,.i v7,.l (.sl 41 .sp) v8,.l .gr v9,.i v10,.i v11,.l (.sl 41 .sp) v12,.l .gr v13]=>let q:=fE.l1.c YK K;fE.l1 q.1 q.2 k v1 v2 v3 v4 v5 v6 v7 v8 v9 v10 v11 v12 v13
  | _=>none
noncomputable def fE.l0.p:PS:=⟨[nO,nO,.one (.i .i64),.one (.bp 0 0),.one (.bp 1 0),nO,nO,.one (.s .sp),.one (.i .i64)]++nOs 38++[.one (.lf 60 [(⟨15,14⟩:(FuncId × FuncId)),(⟨13,32⟩:(FuncId × FuncId))]),.one (.li .i64 2),.one (.li .i64 0)]++nOs 164,[.box 25 [.i .i64,.i .i64,.s (.sl 41 .sp),.s .gr],.box 25 [.i .i64,.i .i64,.s (.sl 41 .sp),.s .gr]]⟩
noncomputable def fE.l0.c {γ:Type} (YK:HdK γ) (K:gy→St→Option γ)  := ((fun y1 y2 y3 y4 y5 y6 y7 y8 y9 aa ab=>K .ret ((⟨[nO,nO,.one (.i .i64),.one (.bp 0 0),.one (.bp 1 0),nO,.one (.lb false),.one (.s .sp),.one (.i .i64)]++nOs 38++[.one (.lf 60 [(⟨15,14⟩:(FuncId × FuncId)),(⟨13,32⟩:(FuncId × FuncId))]),.one (.li .i64 2),.one (.li .i64 0)]++nOs 164,[.box 25 [.i .i64,.i .i64,.s (.sl 41 .sp),.s .gr],.box 25 [.i .i64,.i .i64,.s (.sl 41 .sp),.s .gr],.box 60 [.fn 15 [],.fn 14 []]]⟩:PS).mk' [.i y1,.l .sp y2,.i y3,.i y4,.i y5,.l (.sl 41 .sp) y6,.l .gr y7,.i y8,.i y9,.l (.sl 41 .sp) aa,.l .gr ab])),(fun y1 y2 y3 y4 y5 y6 y7 y8 y9 aa ab=>K .normal ((⟨[nO,nO,.one (.i .i64),.one (.bp 0 0),.one (.bp 1 0),nO,nO,.one (.s .sp),.one (.i .i64)]++nOs 38++[.one (.lf 60 [(⟨15,14⟩:(FuncId × FuncId)),(⟨13,32⟩:(FuncId × FuncId))]),.one (.li .i64 2),.one (.li .i64 1)]++nOs 164,[.box 25 [.i .i64,.i .i64,.s (.sl 41 .sp),.s .gr],.box 25 [.i .i64,.i .i64,.s (.sl 41 .sp),.s .gr],.box 60 [.fn 15 [],.fn 14 []]]⟩:PS).mk' [.i y1,.l .sp y2,.i y3,.i y4,.i y5,.l (.sl 41 .sp) y6,.l .gr y7,.i y8,.i y9,.l (.sl 41 .sp) aa,.l .gr ab])))
noncomputable def fE.l0.g {γ:Type} (YK:HdK γ) (k:Nat) (K:gy→St→Option γ):List Lf→Option γ
  | [.i v1,.l .sp v2,.i v3,.i v4,.i v5,.l (.sl 41 .sp) v6,.l .gr v7,.i v8,.i v9,.l (.sl 41 .sp) v10,.l .gr v11]=>let q:=fE.l0.c YK K;fE.l0 q.1 q.2 k v1 v2 v3 v4 v5 v6 v7 v8 v9 v10 v11
  | _=>none
noncomputable def fE.l5.p:PS:=⟨[nO,nO,.one (.i .i64),.one (.bp 0 0),.one (.bp 1 0),nO,nO,.one (.s .sp),.one (.i .i64),nO,.one (.bp 2 0),nO,.one (.i .i64)]++nOs 34++[.one (.lf 60 [(⟨15,14⟩:(FuncId × FuncId)),(⟨13,32⟩:(FuncId × FuncId))]),.one (.li .i64 2),.one (.li .i64 1)]++nOs 164,[.box 25 [.i .i64,.i .i64,.s (.sl 41 .sp),.s .gr],.box 25 [.i .i64,.i .i64,.s (.sl 41 .sp),.s .gr],.box 60 [.fn 13 [],.fn 32 []]]⟩
noncomputable def fE.l5.c {γ:Type} (YK:HdK γ) (K:gy→St→Option γ)  := ((fun y1 y2 y3 y4 y5 y6 y7 y8 y9 aa ab=>K .ret ((⟨[nO,nO,.one (.i .i64),.one (.bp 0 0),.one (.bp 1 0),nO,.one (.lb false),.one (.s .sp),.one (.i .i64)]++nOs 38++[.one (.lf 60 [(⟨15,14⟩:(FuncId × FuncId)),(⟨13,32⟩:(FuncId × FuncId))]),.one (.li .i64 2),.one (.li .i64 1)]++nOs 164,[.box 25 [.i .i64,.i .i64,.s (.sl 41 .sp),.s .gr],.box 25 [.i .i64,.i .i64,.s (.sl 41 .sp),.s .gr],.box 60 [.fn 13 [],.fn 32 []]]⟩:PS).mk' [.i y1,.l .sp y2,.i y3,.i y4,.i y5,.l (.sl 41 .sp) y6,.l .gr y7,.i y8,.i y9,.l (.sl 41 .sp) aa,.l .gr ab])),(fun y1 y2 y3 y4 y5 y6 y7 y8 y9 aa ab=>K .normal ((⟨[nO,nO,.one (.i .i64),.one (.bp 0 0),.one (.bp 1 0),nO,nO,.one (.s .sp),.one (.i .i64)]++nOs 38++[.one (.lf 60 [(⟨15,14⟩:(FuncId × FuncId)),(⟨13,32⟩:(FuncId × FuncId))]),.one (.li .i64 2),.one (.li .i64 1)]++nOs 164,[.box 25 [.i .i64,.i .i64,.s (.sl 41 .sp),.s .gr],.box 25 [.i .i64,.i .i64,.s (.sl 41 .sp),.s .gr],.box 60 [.fn 13 [],.fn 32 []]]⟩:PS).mk' [.i y1,.l .sp y2,.i y3,.i y4,.i y5,.l (.sl 41 .sp) y6,.l .gr y7,.i y8,.i y9,.l (.sl 41 .sp) aa,.l .gr ab])))
noncomputable def fE.l5.g {γ:Type} (YK:HdK γ) (k:Nat) (K:gy→St→Option γ):List Lf→Option γ
  | [.i v1,.l .sp v2,.i v3,.i v4,.i v5,.i v6,.l (.sl 41 .sp) v7,.l .gr v8,.i v9,.i v10,.l (.sl 41 .sp) v11,.l .gr v12]=>let q:=fE.l5.c YK K;fE.l5 q.1 q.2 k v1 v2 v3 v4 v5 v6 v7 v8 v9 v10 v11 v12
  | _=>none
noncomputable def fE.l4.p:PS:=⟨[nO,nO,.one (.i .i64),.one (.bp 0 0),.one (.bp 1 0),nO,nO,.one (.s .sp),.one (.i .i64),nO,.one (.bp 2 0),.one (.i .i64),.one (.i .i64)]++nOs 34++[.one (.lf 60 [(⟨15,14⟩:(FuncId × FuncId)),(⟨13,32⟩:(FuncId × FuncId))]),.one (.li .i64 2),.one (.li .i64 1)]++nOs 164,[.box 25 [.i .i64,.i .i64,.s (.sl 41 .sp),.s .gr],.box 25 [.i .i64,.i .i64,.s (.sl 41 .sp),.s .gr],.box 60 [.fn 13 [],.fn 32 []]]⟩
noncomputable def fE.l4.c {γ:Type} (YK:HdK γ) (K:gy→St→Option γ)  := ((fun y1 y2 y3 y4 y5 y6 y7 y8 y9 aa ab=>K .ret ((⟨[nO,nO,.one (.i .i64),.one (.bp 0 0),.one (.bp 1 0),nO,.one (.lb false),.one (.s .sp),.one (.i .i64)]++nOs 38++[.one (.lf 60 [(⟨15,14⟩:(FuncId × FuncId)),(⟨13,32⟩:(FuncId × FuncId))]),.one (.li .i64 2),.one (.li .i64 1)]++nOs 164,[.box 25 [.i .i64,.i .i64,.s (.sl 41 .sp),.s .gr],.box 25 [.i .i64,.i .i64,.s (.sl 41 .sp),.s .gr],.box 60 [.fn 13 [],.fn 32 []]]⟩:PS).mk' [.i y1,.l .sp y2,.i y3,.i y4,.i y5,.l (.sl 41 .sp) y6,.l .gr y7,.i y8,.i y9,.l (.sl 41 .sp) aa,.l .gr ab])),(fun y1 y2 y3 y4 y5 y6 y7 y8 y9 aa ab=>K .normal ((⟨[nO,nO,.one (.i .i64),.one (.bp 0 0),.one (.bp 1 0),nO,nO,.one (.s .sp),.one (.i .i64)]++nOs 38++[.one (.lf 60 [(⟨15,14⟩:(FuncId × FuncId)),(⟨13,32⟩:(FuncId × FuncId))]),.one (.li .i64 2),.one (.li .i64 1)]++nOs 164,[.box 25 [.i .i64,.i .i64,.s (.sl 41 .sp),.s .gr],.box 25 [.i .i64,.i .i64,.s (.sl 41 .sp),.s .gr],.box 60 [.fn 13 [],.fn 32 []]]⟩:PS).mk' [.i y1,.l .sp y2,.i y3,.i y4,.i y5,.l (.sl 41 .sp) y6,.l .gr y7,.i y8,.i y9,.l (.sl 41 .sp) aa,.l .gr ab])))
noncomputable def fE.l4.g {γ:Type} (YK:HdK γ) (k:Nat) (K:gy→St→Option γ):List Lf→Option γ
  | [.i v1,.l .sp v2,.i v3,.i v4,.i v5,.i v6,.i v7,.l (.sl 41 .sp) v8,.l .gr v9,.i v10,.i v11,.l (.sl 41 .sp) v12,.l .gr v13]=>let q:=fE.l4.c YK K;fE.l4 q.1 q.2 k v1 v2 v3 v4 v5 v6 v7 v8 v9 v10 v11 v12 v13
  | _=>none
noncomputable def fE.l3.p:PS:=⟨[nO,nO,.one (.i .i64),.one (.bp 0 0),.one (.bp 1 0),nO,nO,.one (.s .sp),.one (.i .i64)]++nOs 38++[.one (.lf 60 [(⟨15,14⟩:(FuncId × FuncId)),(⟨13,32⟩:(FuncId × FuncId))]),.one (.li .i64 2),.one (.li .i64 1)]++nOs 164,[.box 25 [.i .i64,.i .i64,.s (.sl 41 .sp),.s .gr],.box 25 [.i .i64,.i .i64,.s (.sl 41 .sp),.s .gr]]⟩
noncomputable def fE.l3.c {γ:Type} (YK:HdK γ) (K:gy→St→Option γ)  := ((fun y1 y2 y3 y4 y5 y6 y7 y8 y9 aa ab=>K .ret ((⟨[nO,nO,.one (.i .i64),.one (.bp 0 0),.one (.bp 1 0),nO,.one (.lb false),.one (.s .sp),.one (.i .i64)]++nOs 38++[.one (.lf 60 [(⟨15,14⟩:(FuncId × FuncId)),(⟨13,32⟩:(FuncId × FuncId))]),.one (.li .i64 2),.one (.li .i64 1)]++nOs 164,[.box 25 [.i .i64,.i .i64,.s (.sl 41 .sp),.s .gr],.box 25 [.i .i64,.i .i64,.s (.sl 41 .sp),.s .gr],.box 60 [.fn 13 [],.fn 32 []]]⟩:PS).mk' [.i y1,.l .sp y2,.i y3,.i y4,.i y5,.l (.sl 41 .sp) y6,.l .gr y7,.i y8,.i y9,.l (.sl 41 .sp) aa,.l .gr ab])),(fun y1 y2 y3 y4 y5 y6 y7 y8 y9 aa ab=>K .normal ((⟨[nO,nO,.one (.i .i64),.one (.bp 0 0),.one (.bp 1 0),nO,nO,.one (.s .sp),.one (.i .i64)]++nOs 38++[.one (.lf 60 [(⟨15,14⟩:(FuncId × FuncId)),(⟨13,32⟩:(FuncId × FuncId))]),.one (.li .i64 2),.one (.li .i64 2)]++nOs 164,[.box 25 [.i .i64,.i .i64,.s (.sl 41 .sp),.s .gr],.box 25 [.i .i64,.i .i64,.s (.sl 41 .sp),.s .gr],.box 60 [.fn 13 [],.fn 32 []]]⟩:PS).mk' [.i y1,.l .sp y2,.i y3,.i y4,.i y5,.l (.sl 41 .sp) y6,.l .gr y7,.i y8,.i y9,.l (.sl 41 .sp) aa,.l .gr ab])))
noncomputable def fE.l3.g {γ:Type} (YK:HdK γ) (k:Nat) (K:gy→St→Option γ):List Lf→Option γ
  | [.i v1,.l .sp v2,.i v3,.i v4,.i v5,.l (.sl 41 .sp) v6,.l .gr v7,.i v8,.i v9,.l (.sl 41 .sp) v10,.l .gr v11]=>let q:=fE.l3.c YK K;fE.l3 q.1 q.2 k v1 v2 v3 v4 v5 v6 v7 v8 v9 v10 v11
  | _=>none
noncomputable def fE.C {γ:Type}:Ctx γ:=mkC (fun k=>mkE [(9,iL.m k),(10,fZ.m k),(11,iy.m k),(13,fG.m k),(14,gQ.m k),(15,fH.m k),(20,kr.m k),(28,jo.m k),(30,jL.m k),(32,gZ.m k)] []) [(6,Tryz.f6)] [(6,mkA [] [(0,[2,3,4,7,8,47,48,49]),(1000005,[2,3,4,7,8,47,48,49]),(1000064,[2,3,4,7,8,10,11,12,47,48,49]),(1000079,[2,3,4,7,8,10,12,47,48,49])] [(0,[6]),(1000005,[2,3,4,6,7,8,47,48,49]),(1000064,[2,3,4,6,7,8,47,48,49]),(1000079,[2,3,4,6,7,8,47,48,49])] [])] [⟨0,6,1000079,jD [(fE.l2.p,fE.l2.g),(fE.l5.p,fE.l5.g)]⟩,⟨0,6,1000064,jD [(fE.l1.p,fE.l1.g),(fE.l4.p,fE.l4.g)]⟩,⟨0,6,1000005,jD [(fE.l0.p,fE.l0.g),(fE.l3.p,fE.l3.g)]⟩] []
theorem fE.l2.eq {γ:Type} (YK:HdK γ) (rl:Option Nat) (K:gy→St→Option γ) (k:Nat) (v1:Int) (v2:List P.S41) (v3:Int) (v4:Int) (v5:Int) (v6:Int) (v7:List (List P.S41)) (v8:List P.S43) (v9:Int) (v10:Int) (v11:List (List P.S41)) (v12:List P.S43):fE.C.lK 0 6 1000079 Tryz.f6 YK rl 3 k (fE.l2.p.mk' [.i v1,.l .sp v2,.i v3,.i v4,.i v5,.i v6,.l (.sl 41 .sp) v7,.l .gr v8,.i v9,.i v10,.l (.sl 41 .sp) v11,.l .gr v12]) K=fE.l2.g YK k K [.i v1,.l .sp v2,.i v3,.i v4,.i v5,.i v6,.l (.sl 41 .sp) v7,.l .gr v8,.i v9,.i v10,.l (.sl 41 .sp) v11,.l .gr v12]:=by kernel_rfl
theorem fE.l1.eq {γ:Type} (YK:HdK γ) (rl:Option Nat) (K:gy→St→Option γ) (k:Nat) (v1:Int) (v2:List P.S41) (v3:Int) (v4:Int) (v5:Int) (v6:Int) (v7:Int) (v8:List (List P.S41)) (v9:List P.S43) (v10:Int) (v11:Int) (v12:List (List P.S41)) (v13:List P.S43):fE.C.lK 0 6 1000064 Tryz.f6 YK rl 3 k (fE.l1.p.mk' [.i v1,.l .sp v2,.i v3,.i v4,.i v5,.i v6,.i v7,.l (.sl 41 .sp) v8,.l .gr v9,.i v10,.i v11,.l (.sl 41 .sp) v12,.l .gr v13]) K=fE.l1.g YK k K [.i v1,.l .sp v2,.i v3,.i v4,.i v5,.i v6,.i v7,.l (.sl 41 .sp) v8,.l .gr v9,.i v10,.i v11,.l (.sl 41 .sp) v12,.l .gr v13]:=by kernel_rfl
theorem fE.l0.eq {γ:Type} (YK:HdK γ) (rl:Option Nat) (K:gy→St→Option γ) (k:Nat) (v1:Int) (v2:List P.S41) (v3:Int) (v4:Int) (v5:Int) (v6:List (List P.S41)) (v7:List P.S43) (v8:Int) (v9:Int) (v10:List (List P.S41)) (v11:List P.S43):fE.C.lK 0 6 1000005 Tryz.f6 YK rl 2 k (fE.l0.p.mk' [.i v1,.l .sp v2,.i v3,.i v4,.i v5,.l (.sl 41 .sp) v6,.l .gr v7,.i v8,.i v9,.l (.sl 41 .sp) v10,.l .gr v11]) K=fE.l0.g YK k K [.i v1,.l .sp v2,.i v3,.i v4,.i v5,.l (.sl 41 .sp) v6,.l .gr v7,.i v8,.i v9,.l (.sl 41 .sp) v10,.l .gr v11]:=by kernel_rfl
theorem fE.l5.eq {γ:Type} (YK:HdK γ) (rl:Option Nat) (K:gy→St→Option γ) (k:Nat) (v1:Int) (v2:List P.S41) (v3:Int) (v4:Int) (v5:Int) (v6:Int) (v7:List (List P.S41)) (v8:List P.S43) (v9:Int) (v10:Int) (v11:List (List P.S41)) (v12:List P.S43):fE.C.lK 0 6 1000079 Tryz.f6 YK rl 3 k (fE.l5.p.mk' [.i v1,.l .sp v2,.i v3,.i v4,.i v5,.i v6,.l (.sl 41 .sp) v7,.l .gr v8,.i v9,.i v10,.l (.sl 41 .sp) v11,.l .gr v12]) K=fE.l5.g YK k K [.i v1,.l .sp v2,.i v3,.i v4,.i v5,.i v6,.l (.sl 41 .sp) v7,.l .gr v8,.i v9,.i v10,.l (.sl 41 .sp) v11,.l .gr v12]:=by kernel_rfl
theorem fE.l4.eq {γ:Type} (YK:HdK γ) (rl:Option Nat) (K:gy→St→Option γ) (k:Nat) (v1:Int) (v2:List P.S41) (v3:Int) (v4:Int) (v5:Int) (v6:Int) (v7:Int) (v8:List (List P.S41)) (v9:List P.S43) (v10:Int) (v11:Int) (v12:List (List P.S41)) (v13:List P.S43):fE.C.lK 0 6 1000064 Tryz.f6 YK rl 3 k (fE.l4.p.mk' [.i v1,.l .sp v2,.i v3,.i v4,.i v5,.i v6,.i v7,.l (.sl 41 .sp) v8,.l .gr v9,.i v10,.i v11,.l (.sl 41 .sp) v12,.l .gr v13]) K=fE.l4.g YK k K [.i v1,.l .sp v2,.i v3,.i v4,.i v5,.i v6,.i v7,.l (.sl 41 .sp) v8,.l .gr v9,.i v10,.i v11,.l (.sl 41 .sp) v12,.l .gr v13]:=by kernel_rfl
theorem fE.l3.eq {γ:Type} (YK:HdK γ) (rl:Option Nat) (K:gy→St→Option γ) (k:Nat) (v1:Int) (v2:List P.S41) (v3:Int) (v4:Int) (v5:Int) (v6:List (List P.S41)) (v7:List P.S43) (v8:Int) (v9:Int) (v10:List (List P.S41)) (v11:List P.S43):fE.C.lK 0 6 1000005 Tryz.f6 YK rl 2 k (fE.l3.p.mk' [.i v1,.l .sp v2,.i v3,.i v4,.i v5,.l (.sl 41 .sp) v6,.l .gr v7,.i v8,.i v9,.l (.sl 41 .sp) v10,.l .gr v11]) K=fE.l3.g YK k K [.i v1,.l .sp v2,.i v3,.i v4,.i v5,.l (.sl 41 .sp) v6,.l .gr v7,.i v8,.i v9,.l (.sl 41 .sp) v10,.l .gr v11]:=by kernel_rfl
theorem fE.iI {γ:Type}:(fE.C (γ:=γ)).Ok:=⟨(all_cons (fun k=>by kernel_rfl) all_nil),(all_cons (by kernel_rfl) all_nil),all_nil⟩
theorem fE.e0 {γ:Type}:iX (fE.C (γ:=γ)) ⟨0,6,1000079,jD [(fE.l2.p,fE.l2.g),(fE.l5.p,fE.l5.g)]⟩:=fE.iI.lT Tryz.f6 [] (by kernel_rfl) (by kernel_rfl) (by kernel_rfl) (all_cons jA (all_cons jA (all_cons jA all_nil))) (all_cons (fun YK rl k ls K v hv=>(show fE.l2.g YK k K ls=some v→_ from fun hv=>by
  unfold fE.l2.g at hv;split at hv
  · exact (fE.l2.eq YK rl K k _ _ _ _ _ _ _ _ _ _ _ _).trans hv
  · cases hv) hv) (all_cons (fun YK rl k ls K v hv=>(show fE.l5.g YK k K ls=some v→_ from fun hv=>by
  unfold fE.l5.g at hv;split at hv
  · exact (fE.l5.eq YK rl K k _ _ _ _ _ _ _ _ _ _ _ _).trans hv
  · cases hv) hv) all_nil))
theorem fE.e1 {γ:Type}:iX (fE.C (γ:=γ)) ⟨0,6,1000064,jD [(fE.l1.p,fE.l1.g),(fE.l4.p,fE.l4.g)]⟩:=fE.iI.lT Tryz.f6 [1000079] (by kernel_rfl) (by kernel_rfl) (by kernel_rfl) (all_cons (fun _=>fE.e0) (all_cons jA (all_cons jA all_nil))) (all_cons (fun YK rl k ls K v hv=>(show fE.l1.g YK k K ls=some v→_ from fun hv=>by
  unfold fE.l1.g at hv;split at hv
  · exact (fE.l1.eq YK rl K k _ _ _ _ _ _ _ _ _ _ _ _ _).trans hv
  · cases hv) hv) (all_cons (fun YK rl k ls K v hv=>(show fE.l4.g YK k K ls=some v→_ from fun hv=>by
  unfold fE.l4.g at hv;split at hv
  · exact (fE.l4.eq YK rl K k _ _ _ _ _ _ _ _ _ _ _ _ _).trans hv
  · cases hv) hv) all_nil))
theorem fE.e2 {γ:Type}:iX (fE.C (γ:=γ)) ⟨0,6,1000005,jD [(fE.l0.p,fE.l0.g),(fE.l3.p,fE.l3.g)]⟩:=fE.iI.lT Tryz.f6 [1000064,1000079] (by kernel_rfl) (by kernel_rfl) (by kernel_rfl) (all_cons (fun _=>fE.e0) (all_cons (fun _=>fE.e1) (all_cons jA all_nil))) (all_cons (fun YK rl k ls K v hv=>(show fE.l0.g YK k K ls=some v→_ from fun hv=>by
  unfold fE.l0.g at hv;split at hv
  · exact (fE.l0.eq YK rl K k _ _ _ _ _ _ _ _ _ _ _).trans hv
  · cases hv) hv) (all_cons (fun YK rl k ls K v hv=>(show fE.l3.g YK k K ls=some v→_ from fun hv=>by
  unfold fE.l3.g at hv;split at hv
  · exact (fE.l3.eq YK rl K k _ _ _ _ _ _ _ _ _ _ _).trans hv
  · cases hv) hv) all_nil))
theorem fE.ok (k:Nat):jK Tryz.prog 6 (fE.m k).s:=match k with
  | k+3=>okW fE.iI 0 Tryz.f6 (k+3) all_nil (fun k=>all_cons (iL.ok k) (all_cons (fZ.ok k) (all_cons (iy.ok k) (all_cons (fG.ok k) (all_cons (gQ.ok k) (all_cons (fH.ok k) (all_cons (kr.ok k) (all_cons (jo.ok k) (all_cons (jL.ok k) (all_cons (gZ.ok k) (all_nil))))))))))) (all_cons ⟨Tryz.func6,by kernel_rfl⟩ all_nil) (all_cons fE.e0 (all_cons fE.e1 (all_cons fE.e2 all_nil))) (by kernel_rfl) (by kernel_rfl) (fun a=>by kernel_rfl)
  | 0=>wV (fun a=>by kernel_rfl) Tryz.f6 Tryz.func6 (by kernel_rfl) (by kernel_rfl)
  | 1=>wV (fun a=>by kernel_rfl) Tryz.f6 Tryz.func6 (by kernel_rfl) (by kernel_rfl)
  | 2=>wV (fun a=>by kernel_rfl) Tryz.f6 Tryz.func6 (by kernel_rfl) (by kernel_rfl)
end Go.Proofs.YtongeknogcboiaaGreat.R
namespace Go.Proofs.YtongeknogcboiaaGreat.M
noncomputable section
set_option linter.unusedVariables false
set_option linter.unusedSimpArgs false
open Go.RowKit Go.Proofs.YtongeknogcboiaaGreatW.fP Go.Proofs.YtongeknogcboiaaGreatW.gK
def gh0 (W:World):Gh:={ ow:=fun _=>none,pr:=fun b _=>b<W.heap.size,bx:=fun _=>0,lr:=fun _=>default,lv:=fun _=>False,av:=fun _=>undef }
theorem cp0 {W:World} {a:Addr} {v:Value} (h:W.cell? a=some v):lH (gh0 W) W a v:=⟨h,by
  show a.block<W.heap.size;unfold World.cell? at h;cases hb:W.heap[a.block]? with
  | none=>rw [hb] at h;cases h
  | some _=>exact (Array.getElem?_eq_some_iff.1 hb).1⟩
theorem row0 {α:Type} {R R':α→List Value→Prop} {sz n:Nat} (hz:0<sz) {W:World} (hR:∀ x cs,R x cs→R' x cs) {A:Option Addr} {xs:List α} (h:lJ R sz W A n xs):abD R' sz (lH (gh0 W) W) A xs:=fun i x hx=>by
  obtain ⟨hl,_,h⟩:=h;have hi:0<n:=by have:=(List.getElem?_eq_some_iff.1 hx).1;omega
  obtain ⟨ad,rfl,h2⟩:=h hi;obtain ⟨c,hc,hr,hcell⟩:=h2 i x hx;have hs:ad.spot=none:=by
    obtain ⟨c0,hc0,_,hcell0⟩:=h2 0 _ (List.getElem?_eq_getElem (by omega));have:=hcell0 0 (c0[0]'(by omega)) (by simp);rw [Nat.zero_mul] at this;exact qw this
  obtain ⟨b,o,s⟩:=ad;obtain rfl:s=none:=hs;refine ⟨b,o,c,rfl,hR _ _ hr,hc,fun j v hv => ?_⟩;have:=hcell j v hv;rw [Addr.add_mid] at this;exact cp0 this
theorem sl0 {α:Type} {R R':α→List Value→Prop} {sz c:Nat} (hz:0<sz) {W:World} (hR:∀ x cs,R x cs→R' x cs) {A:Option Addr} {xs:List α} (hc:xs.length≤c) (h:lJ R sz W A xs.length xs):SlR R' sz (lH (gh0 W) W) xs (.slice A xs.length c):=⟨A,c,rfl,hc,row0 hz hR h⟩
theorem fm0 {W:World} (p c:Int) {A2:Option Addr} {c2:Nat} {core:List (List P.S41)} {A3:Option Addr} {c3:Nat} {odd:List P.S43} (h2:Kd.C (Kd.slice 41 P.k41) W A2 core.length core) (l2:core.length≤c2) (h3:Kd.C P.k43 W A3 odd.length odd) (l3:odd.length≤c3) :
    Ty.fm.R (lH (gh0 W) W) ⟨p,c,core,odd⟩ [.int .i64 p,.int .i64 c,.slice A2 core.length c2,.slice A3 odd.length c3] :=
  ⟨_,_,rfl,sl0 (by decide) (fun x cs h=>by
    obtain ⟨A,k,rfl,hl,hk⟩:=h;exact ⟨_,rfl,sl0 (by decide) (fun x cs h=>P.xG h) hl hk⟩) l2 h2,sl0 (by decide) (fun x cs h=>by
    obtain ⟨A,k,rfl,hl,hk⟩:=P.abP h;exact ⟨_,rfl,sl0 (by decide) (fun x cs h=>P.xG h) hl hk⟩) l3 h3⟩
def ad7 (W:World):(ts:List Ty)→mZ ts→List Value→Prop
  | [],_,[]=>True
  | t :: ts,a,v :: vs=>(∃ ws,t.R (lH (gh0 W) W) a.1 ws∧VW t ws v)∧ad7 W ts a.2 vs
  | _,_,_=>False
theorem afa {W:World}:∀ {ts:List Ty} {a:mZ ts} {vs:List Value},ad7 W ts a vs→(kI ts a).length=vs.length∧∀ (i:Nat) (x:AV) (v:Value),(kI ts a)[i]? = some x→vs[i]? = some v→∀ fr' i',AVR 0 (gh0 W) W fr' i' x v
  | [],_,[],_=>⟨rfl,fun i x v hx=>by simp [kI] at hx⟩
  | [],_,_ :: _,h=>h.elim
  | _ :: _,_,[],h=>h.elim
  | t :: ts,a,v :: vs,⟨⟨ws,h1,h2⟩,h3⟩=>by
    obtain ⟨q1,q2⟩:=afa h3;refine ⟨by simp [kI,q1],fun i x u hx hu fr' i' => ?_⟩;cases i with
    | zero =>
      simp [kI] at hx hu
      subst hx;subst hu;exact adR _ t a.1 h1 h2
    | succ i=>exact q2 i x u (by simpa [kI] using hx) (by simpa using hu) fr' i'
theorem Ty.of_cells:(t:Ty)→(x:t.T)→t.of (t.cells x)=some x
  | .int k,x=>by simp [Ty.of,Ty.cells]
  | .bool,x=>rfl
  | .str,x=>rfl
  | .sp,x=>rfl
  | .gr,x=>by simp [Ty.of,Ty.cells,Cell.asL]
  | .fm,x=>by simp [Ty.of,Ty.cells,Cell.asL]
  | .ff,x=>rfl
  | .sl _ t,x=>by simp [Ty.of,Ty.cells,Cell.asL]
theorem afb (t:Ty) (x:t.T):rdP t (mkP t x)=some x:=by
  have h:=Ty.of_cells t x;cases t <;> simpa [mkP,rdP,Ty.cells,Ty.ag] using h
theorem vN:(ts:List Ty)→(a:mZ ts)→ng ts (kI ts a)=some a
  | [],_=>rfl
  | t :: ts,a=>by
    simp only [kI,ng,afb,vN ts a.2];rfl
theorem aaU {P:Program} {f:FuncId} {ts:List Ty} {F:mZ ts→Option Bool} (h:jK P f (jN ts [.pl .bool] F).s) {W:World} {a:mZ ts} {vs:List Value} (hR:ad7 W ts a vs) (hF:F a=some true) :
    Calls P f vs.toArray W fun e W'=>e=.returned (.bool true)∧Below W.heap.size W W':=by
  obtain ⟨fn,_,_,_,h⟩:=h;obtain ⟨q1,q2⟩:=afa hR;have hs:(jN ts [.pl .bool] F).s (kI ts a)=some (zG [.pl .bool] true):=by
    show ((ng ts (kI ts a)).map F).bind _=_;rw [vN];show (F a).map _=_;rw [hF];rfl
  refine (h 0 (gh0 W) W 0 0 _ _ _ ⟨fun b o hb=>hb,fun b ℓ hl=>by cases hl⟩ (by simpa using q1) (fun i x v hx hv=>q2 i x v hx (by simpa using hv)) hs).mono ?_;rintro e W' ⟨v,rfl,g',_,_,hE,hv⟩;refine ⟨?_,⟨hE.os,hE.tape,hE.output,hE.size,fun b hb=>(hE.far b hb (fun ℓ hl=>by cases hl)).1⟩⟩;have hv:v=.bool true∧_:=hv;rw [hv.1]
end
end Go.Proofs.YtongeknogcboiaaGreat.M
namespace Go.Proofs.YtongeknogcboiaaGreat.P
set_option linter.unusedVariables false
set_option linter.unusedSimpArgs false
open Go.RowKit
def SL (lo hi:Int):List Sp→Prop
  | []=>True
  | s :: r=>lo≤s.f0∧s.f0≤s.f1∧s.f1≤hi∧SL (s.f1+2) hi r
def lD (l:List Sp) (x:Int):Bool:=l.any fun s=>decide (s.f0≤x)&&decide (x≤s.f1)
theorem tT (x:Int):lD [] x=false:=rfl
theorem lU (s:Sp) (r:List Sp) (x:Int):lD (s :: r) x=((decide (s.f0≤x)&&decide (x≤s.f1)) || lD r x):=rfl
theorem nu {l:List Sp} {x:Int}:lD l x=true↔∃ s∈l,s.f0≤x∧x≤s.f1:=by simp [lD]
theorem SL.mono {lo lo' hi:Int} (h:lo'≤lo):∀ {l:List Sp},SL lo hi l→SL lo' hi l
  | [],_=>trivial
  | _ :: _,hs=>⟨by have:=hs.1;omega,hs.2⟩
theorem SL.low {lo hi:Int} {l:List Sp} (hs:SL lo hi l) {x:Int} (hx:x<lo):lD l x=false:=by
  induction l generalizing lo with
  | nil=>rfl
  | cons s r ih =>
    obtain ⟨h1,h2,h3,h4⟩:=hs;rw [lU,ih h4 (by omega)];have:¬ s.f0≤x:=by omega
    simp [this]
theorem SL.high {lo hi:Int} {l:List Sp} (hs:SL lo hi l) {x:Int} (hx:hi<x):lD l x=false:=by
  induction l generalizing lo with
  | nil=>rfl
  | cons s r ih =>
    obtain ⟨h1,h2,h3,h4⟩:=hs;rw [lU,ih h4];have:¬ x≤s.f1:=by omega
    simp [this]
theorem SL.ticks {lo hi:Int} {l:List Sp} (hs:SL lo hi l) {s:Sp} (h:s∈l):lo≤s.f0∧s.f0≤s.f1∧s.f1≤hi:=by
  induction l generalizing lo with
  | nil=>simp at h
  | cons t r ih =>
    obtain ⟨h1,h2,h3,h4⟩:=hs;rcases List.mem_cons.1 h with rfl | h
    · exact ⟨h1,h2,h3⟩
    · obtain ⟨a,b,c⟩:=ih h4 h
      exact ⟨by omega,b,c⟩
def Inv (hi:Int) (a:List Sp) (i:Bool) (p:Int):Prop :=
  match a,i with
  | [],i=>i=false
  | s :: r,true=>s.f0≤p∧p≤s.f1∧s.f1≤hi∧SL (s.f1+2) hi r
  | s :: r,false=>SL (p+1) hi (s :: r)
theorem ny {n:Int} (h1 : -9223372036854775808≤n) (h2:n≤9223372036854775807):wrap64 n=n:=by unfold wrap64;omega
theorem Inv.nxt {hi p:Int} {a:List Sp} {i:Bool} (h:Inv hi a i p) (hp : -4611686018427387904≤p) (hh:hi≤4611686018427387904) (hn:a≠[]):p<oO a i∧oO a i≤hi+1:=by
  match a,i,hn with
  | s :: r,true,_ =>
    obtain ⟨h1,h2,h3,h4⟩:=h;have hw:wrap64 (s.f1+1)=s.f1+1:=ny (by omega) (by omega);simp only [oO,hw];omega
  | s :: r,false,_ =>
    obtain ⟨h1,h2,h3,h4⟩:=h;simp only [oO];omega
theorem Inv.step {hi p t:Int} {a:List Sp} {i:Bool} (h:Inv hi a i p) (hp : -4611686018427387904≤p) (hh:hi≤4611686018427387904) (hpt:p<t) (ht:a≠[]→t≤oO a i) :
    Inv hi (jJ a i t).1 (jJ a i t).2 t∧(∀ x,t≤x→lD (jJ a i t).1 x=lD a x)∧(∀ x,p≤x→x<t→lD a x=i):=by
  match a,i with
  | [],i =>
    have:i=false:=h;subst this;exact ⟨rfl,fun _ _=>rfl,fun _ _ _=>rfl⟩
  | s :: r,true =>
    obtain ⟨h1,h2,h3,h4⟩:=h;have hw:wrap64 (s.f1+1)=s.f1+1:=ny (by omega) (by omega);have ht':=ht (by simp);simp only [oO,hw] at ht';have hin:∀ x,p≤x→x<t→lD (s :: r) x=true:=fun x a b=>by
      have c1:s.f0≤x:=by omega
      have c2:x≤s.f1:=by omega
      simp [lU,c1,c2]
    simp only [jJ,hw];by_cases e:s.f1+1=t
    · rw [if_pos e]
      refine ⟨?_,fun x hx => ?_,hin⟩
      · cases r with
        | nil=>rfl
        | cons u r=>exact SL.mono (by omega) h4
      · have:¬ x≤s.f1:=by omega
        simp [lU,this]
    · rw [if_neg e]
      exact ⟨⟨by omega,by omega,h3,h4⟩,fun _ _=>rfl,hin⟩
  | s :: r,false =>
    obtain ⟨h1,h2,h3,h4⟩:=h;have ht':=ht (by simp);simp only [oO] at ht';have hout:∀ x,p≤x→x<t→lD (s :: r) x=false:=fun x a b=>by
      have c1:¬ s.f0≤x:=by omega
      rw [lU,h4.low (by omega)];simp [c1]
    simp only [jJ];by_cases e:s.f0=t
    · rw [if_pos e]
      exact ⟨⟨by omega,by omega,h3,h4⟩,fun _ _=>rfl,hout⟩
    · rw [if_neg e]
      exact ⟨⟨by omega,h2,h3,h4⟩,fun _ _=>rfl,hout⟩
theorem acD (yes:Bool→Bool→Bool) (xs:List Bd):∀ (i:Bool) (f:Int) (o:List Sp),(xs.foldl (lM yes) ⟨i,f,o⟩).out=o++(xs.foldl (lM yes) ⟨i,f,[]⟩).out:=by
  induction xs with
  | nil=>intro i f o;simp
  | cons x xs ih =>
    intro i f o;simp only [List.foldl_cons,lM];split
    · exact ih _ _ _
    · split
      · rw [ih _ _ (o++_),ih _ _ ([]++_)];simp
      · exact ih _ _ _
theorem agw (yes:Bool→Bool→Bool) (hy:yes false false=false) (hi aj:Int) (hlo : -4611686018427387904≤aj) (hh:hi≤4611686018427387904) (n:Nat):∀ (a:List Sp) (ia:Bool) (b:List Sp) (ib:Bool) (p from_:Int),
    msr a ia+msr b ib≤n→Inv hi a ia p→Inv hi b ib p→aj≤p+1 → -4611686018427387904≤p→(yes ia ib=true→aj≤from_∧from_≤p) →
    SL (if yes ia ib then from_ else p+1) hi ((pU a ia b ib).foldl (lM yes) ⟨yes ia ib,from_,[]⟩).out ∧
    ∀ x,lD ((pU a ia b ib).foldl (lM yes) ⟨yes ia ib,from_,[]⟩).out x=if x<p then (yes ia ib&&decide (from_≤x)) else yes (lD a x) (lD b x):=by
  induction n with
  | zero =>
    intro a ia b ib p from_ hm ha hb hp hp2 hf;have e:a=[]∧b=[]:=by
      by_cases e:a=[]∧b=[]
      · exact e
      · have:=qp a ia b ib e;omega
    obtain ⟨rfl,rfl⟩:=e;have h1:ia=false:=ha;have h2:ib=false:=hb;subst h1 h2;rw [oD,hy];refine ⟨trivial,fun x => ?_⟩;simp [tT,hy]
  | succ n ih =>
    intro a ia b ib p from_ hm ha hb hp hp2 hf;by_cases e:a=[]∧b=[]
    · obtain ⟨rfl,rfl⟩:=e
      have h1:ia=false:=ha;have h2:ib=false:=hb;subst h1 h2;rw [oD,hy];refine ⟨trivial,fun x => ?_⟩;simp [tT,hy]
    · have hlt:=qp a ia b ib e
      rw [rH a ia b ib e];have ht:p<atL a ia b ib∧atL a ia b ib≤hi+1∧(a≠[]→atL a ia b ib≤oO a ia)∧(b≠[]→atL a ia b ib≤oO b ib):=by
        unfold atL;by_cases h1:a=[]
        · have h2:b≠[]:=fun h=>e ⟨h1,h⟩
          rw [if_pos h1];have:=hb.nxt hp2 hh h2;exact ⟨this.1,this.2,fun h=>absurd h1 h,fun _=>Int.le_refl _⟩
        · rw [if_neg h1]
          have q1:=ha.nxt hp2 hh h1;by_cases h2:b=[]
          · rw [if_pos h2]
            exact ⟨q1.1,q1.2,fun _=>Int.le_refl _,fun h=>absurd h2 h⟩
          · rw [if_neg h2]
            have q2:=hb.nxt hp2 hh h2;exact ⟨by omega,by omega,fun _=>by omega,fun _=>by omega⟩
      obtain ⟨t,hte⟩:∃ t,atL a ia b ib=t:=⟨_,rfl⟩;rw [hte] at ht hlt ⊢;obtain ⟨ht1,ht2,ht3,al⟩:=ht;obtain ⟨ah,ha2,am⟩:=ha.step hp2 hh ht1 ht3;obtain ⟨ai,hb2,hb3⟩:=hb.step hp2 hh ht1 al;obtain ⟨a1,aa,hpa⟩:∃ a1 aa,jJ a ia t=(a1,aa):=⟨_,_,rfl⟩;obtain ⟨b1,ab,hpb⟩:∃ b1 ab,jJ b ib t=(b1,ab):=⟨_,_,rfl⟩;rw [hpa] at hlt ah ha2 ⊢;rw [hpb] at hlt ai hb2 ⊢;dsimp only at hlt ah ha2 ai hb2 ⊢;have hw:wrap64 (t - 1)=t - 1:=ny (by omega) (by omega);have hval:∀ x,p≤x→x<t→yes (lD a x) (lD b x)=yes ia ib:=fun x h1 h2=>by rw [am x h1 h2,hb3 x h1 h2]
      have af:∀ x,t≤x→yes (lD a1 x) (lD b1 x)=yes (lD a x) (lD b x):=fun x h1=>by rw [ha2 x h1,hb2 x h1]
      simp only [List.foldl_cons];cases hin:yes ia ib with
      | false =>
        cases ac:yes aa ab with
        | true =>
          have hk:lM yes ⟨false,from_,[]⟩ ⟨t,aa,ab⟩=⟨yes aa ab,t,[]⟩:=by simp [lM,ac]
          rw [hk];obtain ⟨s1,s2⟩:=ih a1 aa b1 ab t t (by omega) ah ai (by omega) (by omega) (fun _=>⟨by omega,Int.le_refl _⟩);rw [ac] at s1 s2 ⊢;refine ⟨by simpa using SL.mono (by simp;omega) s1,fun x => ?_⟩;rw [s2 x];by_cases c1:x<p
          · have c2:x<t:=by omega
            have c3:¬ t≤x:=by omega
            simp [c1,c2,c3]
          · by_cases c2:x<t
            · have c3:¬ t≤x:=by omega
              rw [if_neg c1,hval x (by omega) c2,hin];simp [c2,c3]
            · rw [if_neg c1,if_neg c2,af x (by omega)]
        | false =>
          have hk:lM yes ⟨false,from_,[]⟩ ⟨t,aa,ab⟩=⟨yes aa ab,from_,[]⟩:=by simp [lM,ac]
          rw [hk];obtain ⟨s1,s2⟩:=ih a1 aa b1 ab t from_ (by omega) ah ai (by omega) (by omega) (fun h=>by rw [ac] at h;cases h);rw [ac] at s1 s2 ⊢;refine ⟨by simpa using SL.mono (by simp;omega) s1,fun x => ?_⟩;rw [s2 x];by_cases c1:x<p
          · have c2:x<t:=by omega
            simp [c1,c2]
          · by_cases c2:x<t
            · rw [if_neg c1,hval x (by omega) c2,hin]
              simp [c2]
            · rw [if_neg c1,if_neg c2,af x (by omega)]
      | true =>
        obtain ⟨hf1,hf2⟩:=hf hin;cases ac:yes aa ab with
        | true =>
          have hk:lM yes ⟨true,from_,[]⟩ ⟨t,aa,ab⟩=⟨yes aa ab,from_,[]⟩:=by simp [lM,ac]
          rw [hk];obtain ⟨s1,s2⟩:=ih a1 aa b1 ab t from_ (by omega) ah ai (by omega) (by omega) (fun _=>⟨hf1,by omega⟩);rw [ac] at s1 s2 ⊢;refine ⟨by simpa using s1,fun x => ?_⟩;rw [s2 x];by_cases c1:x<p
          · have c2:x<t:=by omega
            simp [c1,c2]
          · by_cases c2:x<t
            · have c3:from_≤x:=by omega
              rw [if_neg c1,hval x (by omega) c2,hin];simp [c2,c3]
            · rw [if_neg c1,if_neg c2,af x (by omega)]
        | false =>
          have hk:lM yes ⟨true,from_,[]⟩ ⟨t,aa,ab⟩=⟨yes aa ab,from_,[⟨from_,t - 1⟩]⟩:=by simp [lM,ac,hw]
          rw [hk,acD];obtain ⟨s1,s2⟩:=ih a1 aa b1 ab t from_ (by omega) ah ai (by omega) (by omega) (fun h=>by rw [ac] at h;cases h);rw [ac] at s1 s2 ⊢;refine ⟨⟨by simp,by show from_≤t - 1;omega,by show t - 1≤hi;omega,?_⟩,fun x => ?_⟩
          · have:(t - 1:Int)+2=t+1:=by omega
            show SL (t - 1+2) hi _;rw [this];simpa using s1
          · have ak:lD ([⟨from_,t - 1⟩]++(List.foldl (lM yes) ⟨false,from_,[]⟩ (pU a1 aa b1 ab)).out) x=((decide (from_≤x)&&decide (x≤t - 1)) || lD (List.foldl (lM yes) ⟨false,from_,[]⟩ (pU a1 aa b1 ab)).out x):=rfl
            rw [ak,s2 x];by_cases c1:x<p
            · have c2:x<t:=by omega
              have c3:x≤t - 1:=by omega
              simp [c1,c2,c3]
            · by_cases c2:x<t
              · have c3:from_≤x:=by omega
                have c4:x≤t - 1:=by omega
                rw [if_neg c1,hval x (by omega) c2,hin];simp [c2,c3,c4]
              · have c4:¬ x≤t - 1:=by omega
                rw [if_neg c1,if_neg c2,af x (by omega)];simp [c4]
theorem zH (yes:Bool→Bool→Bool) (hy:yes false false=false) {lo hi:Int} (hlo : -4611686018427387903≤lo) (hh:hi≤4611686018427387904) {a b:List Sp} (ha:SL lo hi a) (hb:SL lo hi b) :
    SL lo hi (nW yes a b)∧∀ x,lD (nW yes a b) x=yes (lD a x) (lD b x):=by
  have inv:∀ {a:List Sp},SL lo hi a→Inv hi a false (lo - 1):=by
    intro a h;cases a with
    | nil=>rfl
    | cons s r=>exact SL.mono (by omega) h
  obtain ⟨h1,h2⟩:=agw yes hy hi lo (by omega) hh _ a false b false (lo - 1) 0 (Nat.le_refl _) (inv ha) (inv hb) (by omega) (by omega) (fun h=>by rw [hy] at h;cases h);rw [hy] at h1 h2;refine ⟨by simpa [nW,adp] using SL.mono (by simp) h1,fun x => ?_⟩;have:=h2 x;unfold nW adp;rw [this];by_cases c:x<lo - 1
  · rw [if_pos c,ha.low (by omega),hb.low (by omega),hy];simp
  · rw [if_neg c]
def ins:List Int→Int→List Int
  | [],x=>[x]
  | y :: r,x=>if y=x then y :: r else if y>x then x :: y :: r else y :: ins r x
end Go.Proofs.YtongeknogcboiaaGreat.P
namespace Go.Proofs.YtongeknogcboiaaGreat.P
set_option linter.unusedVariables false
set_option linter.unusedSimpArgs false
open Go.RowKit Go.ChangeShapes Go.WideShapes Go.Deep Go.Proofs.YtongeknogcboiaaGreatW.fP
def fits (n:Int):Prop:=(Lit.int .i64 n).wf=true
def qN (s:Sp):Prop:=fits s.f0∧fits s.f1
end Go.Proofs.YtongeknogcboiaaGreat.P
