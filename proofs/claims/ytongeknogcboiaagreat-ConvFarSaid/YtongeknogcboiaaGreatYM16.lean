/- Lemmas for laws of chapter 7: what the functions that they reach compute. No condition of its own. -/
import Derived.Test.YtongeknogcboiaaGreatYM9
import Derived.Test.YtongeknogcboiaaGreatYM11
import Derived.Test.YtongeknogcboiaaGreatYM12
import Derived.Test.YtongeknogcboiaaGreatYM13
import Derived.Test.YtongeknogcboiaaGreatYM15
import Derived.Test.YtongeknogcboiaaGreatYM14
import Derived.Test.YtongeknogcboiaaGreatYM8
import Derived.Test.YtongeknogcboiaaGreatYM2
import Derived.Deep.SlicePairs
import Derived.ChangeArms
import Derived.ProofKit
import Derived.Deep.Slices
namespace Go.Proofs.YtongeknogcboiaaGreat.R
open M Go.RowKit Go.Proofs.YtongeknogcboiaaGreatW.fK Go.Proofs.YtongeknogcboiaaGreatW.gN Go.Proofs.YtongeknogcboiaaGreatW.iC
set_option linter.unusedVariables false
noncomputable def jP.m (k:Nat):Sm:=jM [(.sl 41 .sp),(.sl 41 .sp)] [.pl .bool] (fun a=>jP.f k a.1 a.2.1)
noncomputable def jP.C {γ:Type}:Ctx γ:=mkC (fun k=>mkE [(107,fJ.m k)] []) [(67,Tryz.f67)] [(67,mkA [] [] [] [])] [] []
theorem jP.iN {γ:Type}:(jP.C (γ:=γ)).Ok:=⟨(all_cons (fun k=>by kernel_rfl) all_nil),(all_cons (by kernel_rfl) all_nil),all_nil⟩
theorem jP.ok (k:Nat):jK Tryz.prog 67 (jP.m k).s:=okW jP.iN 0 Tryz.f67 k all_nil (fun k=>all_cons (fJ.ok k) (all_nil)) (all_cons ⟨Tryz.func67,by kernel_rfl⟩ all_nil) all_nil (by kernel_rfl) (by kernel_rfl) (fun a=>by kernel_rfl)
noncomputable def jG.m (k:Nat):Sm:=jM [.fm,.gr] [.pl .bool] (fun a=>jG.f k a.1.f0 a.1.f1 a.1.f2 a.1.f3 a.2.1.f0 a.2.1.f1)
noncomputable def jG.C {γ:Type}:Ctx γ:=mkC (fun k=>mkE [(11,iM.m k),(67,jP.m k)] []) [(122,Tryz.f122)] [(122,mkA [] [] [] [])] [] []
theorem jG.iN {γ:Type}:(jG.C (γ:=γ)).Ok:=⟨(all_cons (fun k=>by kernel_rfl) all_nil),(all_cons (by kernel_rfl) all_nil),all_nil⟩
theorem jG.ok (k:Nat):jK Tryz.prog 122 (jG.m k).s:=okW jG.iN 0 Tryz.f122 k all_nil (fun k=>all_cons (iM.ok k) (all_cons (jP.ok k) (all_nil))) (all_cons ⟨Tryz.func122,by kernel_rfl⟩ all_nil) all_nil (by kernel_rfl) (by kernel_rfl) (fun a=>by kernel_rfl)
noncomputable def iq.m (k:Nat):Sm:=jM [.fm] [.pl .fm] (fun a=>iq.f k a.1.f0 a.1.f1 a.1.f2 a.1.f3)
noncomputable def iq.l0.p:PS:=⟨[nO,nO,.one (.bp 1 0),.one (.bp 2 0),.one (.o 43 .gr)]++nOs 5++[.one (.s .gr),.one (.i .i64),.one (.i .i64)]++nOs 20,[.box 25 [.i .i64,.i .i64,.s (.sl 41 .sp),.s .gr],.box 25 [.li .i64 0,.li .i64 0,.lo 28 (.sl 41 .sp),.lo 43 .gr],.box 25 [.i .i64,.i .i64,.s (.sl 41 .sp),.s .gr]]⟩
noncomputable def iq.l0.c {γ:Type} (YK:HdK γ) (K:gu→St→Option γ) (c5:Int) (c6:Int) (c7:List (List P.S41)) (c8:List P.S43) (c9:Int) (c10:Int) (c11:List (List P.S41)) (c12:List P.S43):=(fun y1=>K (.exit 0) ((⟨[nO,nO,.one (.bp 1 0),.one (.bp 2 0),.one (.o 43 .gr)]++nOs 28,[.box 25 [.i .i64,.i .i64,.s (.sl 41 .sp),.s .gr],.box 25 [.li .i64 0,.li .i64 0,.lo 28 (.sl 41 .sp),.lo 43 .gr],.box 25 [.i .i64,.i .i64,.s (.sl 41 .sp),.s .gr]]⟩:PS).mk' [.l .gr y1,.i c5,.i c6,.l (.sl 41 .sp) c7,.l .gr c8,.i c9,.i c10,.l (.sl 41 .sp) c11,.l .gr c12]))
noncomputable def iq.l0.g {γ:Type} (YK:HdK γ) (k:Nat) (K:gu→St→Option γ):List Lf→Option γ
  | [.l .gr v1,.l .gr c2,.i c3,.i v4,.i c5,.i c6,.l (.sl 41 .sp) c7,.l .gr c8,.i c9,.i c10,.l (.sl 41 .sp) c11,.l .gr c12]=>iq.l0 (iq.l0.c YK K c5 c6 c7 c8 c9 c10 c11 c12) c2 c3 c9 c10 c11 c12 k v1 v4
  | _=>none
noncomputable def iq.C {γ:Type}:Ctx γ:=mkC (fun k=>mkE [(121,fQ.m k),(122,jG.m k),(123,iy.m k)] []) [(85,Tryz.f85)] [(85,mkA [20,30,32] [(0,[2,3,4,10,11,12])] [(0,[2,3,4])] [])] [⟨0,85,0,jy [(iq.l0.p,iq.l0.g)]⟩] []
theorem iq.l0.eq {γ:Type} (YK:HdK γ) (rl:Option Nat) (K:gu→St→Option γ) (c2:List P.S43) (c3:Int) (c5:Int) (c6:Int) (c7:List (List P.S41)) (c8:List P.S43) (c9:Int) (c10:Int) (c11:List (List P.S41)) (c12:List P.S43):∀ k:Nat,(fun (v1:List P.S43) (v4:Int)=>iq.C.lK 0 85 0 Tryz.f85 YK rl 3 k (iq.l0.p.mk' [.l .gr v1,.l .gr c2,.i c3,.i v4,.i c5,.i c6,.l (.sl 41 .sp) c7,.l .gr c8,.i c9,.i c10,.l (.sl 41 .sp) c11,.l .gr c12]) K)=(fun (v1:List P.S43) (v4:Int)=>iq.l0.g YK k K [.l .gr v1,.l .gr c2,.i c3,.i v4,.i c5,.i c6,.l (.sl 41 .sp) c7,.l .gr c8,.i c9,.i c10,.l (.sl 41 .sp) c11,.l .gr c12]):=iD (fun R k v1 v4=>iq.l0T (iq.l0.c YK K c5 c6 c7 c8 c9 c10 c11 c12) c2 c3 c9 c10 c11 c12 R k v1 v4) (by kernel_rfl) (fun k=>by kernel_rfl) (fun k=>by kernel_rfl)
theorem iq.iN {γ:Type}:(iq.C (γ:=γ)).Ok:=⟨(all_cons (fun k=>by kernel_rfl) all_nil),(all_cons (by kernel_rfl) all_nil),all_nil⟩
theorem iq.e0 {γ:Type}:jc (iq.C (γ:=γ)) ⟨0,85,0,jy [(iq.l0.p,iq.l0.g)]⟩:=iq.iN.lS Tryz.f85 [] (by kernel_rfl) (by kernel_rfl) (by kernel_rfl) (all_cons jC all_nil) (all_cons (fun YK rl k ls K v hv=>(show iq.l0.g YK k K ls=some v→_ from fun hv=>by
  unfold iq.l0.g at hv;split at hv
  · exact (congrFun (congrFun (iq.l0.eq YK rl K _ _ _ _ _ _ _ _ _ _ k) _) _).trans hv
  · cases hv) hv) all_nil)
theorem iq.ok (k:Nat):jK Tryz.prog 85 (iq.m k).s:=okW iq.iN 0 Tryz.f85 k all_nil (fun k=>all_cons (fQ.ok k) (all_cons (jG.ok k) (all_cons (iy.ok k) (all_nil)))) (all_cons ⟨Tryz.func85,by kernel_rfl⟩ all_nil) (all_cons iq.e0 all_nil) (by kernel_rfl) (by kernel_rfl) (fun a=>by kernel_rfl)
noncomputable def jl.m (k:Nat):Sm:=jM [.fm] [.pl .fm,.pl (.int .i64)] (fun a=>jl.f k a.1.f0 a.1.f1 a.1.f2 a.1.f3)
noncomputable def jl.C {γ:Type}:Ctx γ:=mkC (fun k=>mkE [(35,gF.m k),(85,iq.m k)] []) [(49,Tryz.f49)] [(49,mkA [] [] [] [])] [] []
theorem jl.iN {γ:Type}:(jl.C (γ:=γ)).Ok:=⟨(all_cons (fun k=>by kernel_rfl) all_nil),(all_cons (by kernel_rfl) all_nil),all_nil⟩
theorem jl.ok (k:Nat):jK Tryz.prog 49 (jl.m k).s:=okW jl.iN 0 Tryz.f49 k all_nil (fun k=>all_cons (gF.ok k) (all_cons (iq.ok k) (all_nil))) (all_cons ⟨Tryz.func49,by kernel_rfl⟩ all_nil) all_nil (by kernel_rfl) (by kernel_rfl) (fun a=>by kernel_rfl)
noncomputable def fu.m (k:Nat):Sm:=jM [.fm,(.int .i64)] [.pl .fm,.pl (.int .i64)] (fun a=>fu.f k a.1.f0 a.1.f1 a.1.f2 a.1.f3 a.2.1)
noncomputable def fu.y0.p0:List PB:=[.box 25 [.i .i64,.i .i64,.s (.sl 41 .sp),.s .gr],.box 25 [.li .i64 0,.li .i64 0,.lo 28 (.sl 41 .sp),.lo 43 .gr],.box 25 [.i .i64,.i .i64,.o 28 (.sl 41 .sp),.o 43 .gr],.box 43 [.i .i64,.s .sp],.box 28 [.lo 41 .sp],.box 29 [.i .i64],.box 28 [.mu 41 .sp],.box 77 [.fn 48 [0]],.box 3 [.i .i64],.box 3 [.i .i64],.lp .ret]
noncomputable def fu.y0.p1:List PB:=[.box 25 [.i .i64,.i .i64,.s (.sl 41 .sp),.s .gr],.box 25 [.li .i64 0,.li .i64 0,.lo 28 (.sl 41 .sp),.lo 43 .gr],.box 25 [.i .i64,.i .i64,.o 28 (.sl 41 .sp),.o 43 .gr],.box 43 [.i .i64,.s .sp],.box 28 [.lo 41 .sp],.box 29 [.li .i64 0],.box 28 [.mu 41 .sp],.box 77 [.fn 48 [0]],.box 3 [.i .i64],.box 3 [.i .i64],.lp .normal]
noncomputable def fu.y0 {γ:Type} (x:AV) (bx:List Bx) (x0:Int→Int→(List (List P.S41))→(List P.S43)→Int→Int→(List (List P.S41))→(List P.S43)→Int→(List P.S41)→Int→(List P.S41)→Int→Int→Option γ) (x1:Int→Int→(List (List P.S41))→(List P.S43)→Int→Int→(List (List P.S41))→(List P.S43)→Int→(List P.S41)→(List P.S41)→Int→Int→Option γ):Option γ :=
  match yrd false fu.y0.p0 x bx with
  | some [.i z1,.i z2,.l (.sl 41 .sp) z3,.l .gr z4,.i z5,.i z6,.l (.sl 41 .sp) z7,.l .gr z8,.i z9,.l .sp z10,.i z11,.l .sp z12,.i z13,.i z14]=>(x0 z1 z2 z3 z4 z5 z6 z7 z8 z9 z10 z11 z12 z13 z14)
  | _=>match yrd true fu.y0.p1 x bx with
  | some [.i z1,.i z2,.l (.sl 41 .sp) z3,.l .gr z4,.i z5,.i z6,.l (.sl 41 .sp) z7,.l .gr z8,.i z9,.l .sp z10,.l .sp z11,.i z12,.i z13]=>(x1 z1 z2 z3 z4 z5 z6 z7 z8 z9 z10 z11 z12 z13)
  | _=>none
noncomputable def fu.y0T {γ:Type}:YdK γ:=fun K x bx=>fu.y0 x bx (fun z1 z2 z3 z4 z5 z6 z7 z8 z9 aa ab z12 ac af=>K (jV false) (nM fu.y0.p0 [.i z1,.i z2,.l (.sl 41 .sp) z3,.l .gr z4,.i z5,.i z6,.l (.sl 41 .sp) z7,.l .gr z8,.i z9,.l .sp aa,.i ab,.l .sp z12,.i ac,.i af]).1) (fun z1 z2 z3 z4 z5 z6 z7 z8 z9 aa ab z12 ac=>K (jV true) (nM fu.y0.p1 [.i z1,.i z2,.l (.sl 41 .sp) z3,.l .gr z4,.i z5,.i z6,.l (.sl 41 .sp) z7,.l .gr z8,.i z9,.l .sp aa,.l .sp ab,.i z12,.i ac]).1)
theorem fu.mV {γ:Type}:tO (fu.y0T (γ:=γ)):=fun K x bx v h=>by
  unfold fu.y0T fu.y0 at h;split at h
  · rename_i hy
    obtain ⟨rfl,rfl⟩:=jT hy;exact h
  · split at h
    · rename_i hy
      obtain ⟨rfl,rfl⟩:=jT hy;exact h
    · cases h
noncomputable def fu.y1.p0:List PB:=[.box 25 [.i .i64,.i .i64,.s (.sl 41 .sp),.s .gr],.box 25 [.li .i64 0,.li .i64 0,.lo 28 (.sl 41 .sp),.lo 43 .gr],.no,.box 25 [.i .i64,.i .i64,.s (.sl 41 .sp),.s .gr],.box 25 [.li .i64 0,.li .i64 0,.lo 28 (.sl 41 .sp),.lo 43 .gr],.box 25 [.i .i64,.i .i64,.o 28 (.sl 41 .sp),.lo 43 .gr],.box 28 [.lo 41 .sp],.box 29 [.i .i64],.box 28 [.mu 41 .sp],.box 77 [.fn 82 [3]],.box 3 [.i .i64],.box 3 [.i .i64],.lp .ret]
noncomputable def fu.y1.p1:List PB:=[.box 25 [.i .i64,.i .i64,.s (.sl 41 .sp),.s .gr],.box 25 [.li .i64 0,.li .i64 0,.lo 28 (.sl 41 .sp),.lo 43 .gr],.no,.box 25 [.i .i64,.i .i64,.s (.sl 41 .sp),.s .gr],.box 25 [.li .i64 0,.li .i64 0,.lo 28 (.sl 41 .sp),.lo 43 .gr],.box 25 [.i .i64,.i .i64,.o 28 (.sl 41 .sp),.lo 43 .gr],.box 28 [.lo 41 .sp],.box 29 [.li .i64 0],.box 28 [.mu 41 .sp],.box 77 [.fn 82 [3]],.box 3 [.i .i64],.box 3 [.i .i64],.lp .normal]
noncomputable def fu.y1 {γ:Type} (x:AV) (bx:List Bx) (x0:Int→Int→(List (List P.S41))→(List P.S43)→Int→Int→(List (List P.S41))→(List P.S43)→Int→Int→(List (List P.S41))→Int→(List P.S41)→Int→Int→Option γ) (x1:Int→Int→(List (List P.S41))→(List P.S43)→Int→Int→(List (List P.S41))→(List P.S43)→Int→Int→(List (List P.S41))→(List P.S41)→Int→Int→Option γ):Option γ :=
  match yrd false fu.y1.p0 x bx with
  | some [.i z1,.i z2,.l (.sl 41 .sp) z3,.l .gr z4,.i z5,.i z6,.l (.sl 41 .sp) z7,.l .gr z8,.i z9,.i z10,.l (.sl 41 .sp) z11,.i z12,.l .sp z13,.i z14,.i z15]=>(x0 z1 z2 z3 z4 z5 z6 z7 z8 z9 z10 z11 z12 z13 z14 z15)
  | _=>match yrd true fu.y1.p1 x bx with
  | some [.i z1,.i z2,.l (.sl 41 .sp) z3,.l .gr z4,.i z5,.i z6,.l (.sl 41 .sp) z7,.l .gr z8,.i z9,.i z10,.l (.sl 41 .sp) z11,.l .sp z12,.i z13,.i z14]=>(x1 z1 z2 z3 z4 z5 z6 z7 z8 z9 z10 z11 z12 z13 z14)
  | _=>none
noncomputable def fu.y1T {γ:Type}:YdK γ:=fun K x bx=>fu.y1 x bx (fun z1 z2 z3 z4 z5 z6 z7 z8 z9 aa ab z12 ac af ah=>K (jV false) (nM fu.y1.p0 [.i z1,.i z2,.l (.sl 41 .sp) z3,.l .gr z4,.i z5,.i z6,.l (.sl 41 .sp) z7,.l .gr z8,.i z9,.i aa,.l (.sl 41 .sp) ab,.i z12,.l .sp ac,.i af,.i ah]).1) (fun z1 z2 z3 z4 z5 z6 z7 z8 z9 aa ab z12 ac af=>K (jV true) (nM fu.y1.p1 [.i z1,.i z2,.l (.sl 41 .sp) z3,.l .gr z4,.i z5,.i z6,.l (.sl 41 .sp) z7,.l .gr z8,.i z9,.i aa,.l (.sl 41 .sp) ab,.l .sp z12,.i ac,.i af]).1)
theorem fu.uZ {γ:Type}:tO (fu.y1T (γ:=γ)):=fun K x bx v h=>by
  unfold fu.y1T fu.y1 at h;split at h
  · rename_i hy
    obtain ⟨rfl,rfl⟩:=jT hy;exact h
  · split at h
    · rename_i hy
      obtain ⟨rfl,rfl⟩:=jT hy;exact h
    · cases h
noncomputable def fu.l1.p:PS:=⟨[.one (.yl 10),nO,.one (.bp 7 0),.one (.bp 8 0),nO,nO,.one (.i .i64),.one (.i .i64)]++nOs 13,[.box 25 [.i .i64,.i .i64,.s (.sl 41 .sp),.s .gr],.box 25 [.li .i64 0,.li .i64 0,.lo 28 (.sl 41 .sp),.lo 43 .gr],.box 25 [.i .i64,.i .i64,.o 28 (.sl 41 .sp),.o 43 .gr],.box 43 [.i .i64,.s .sp],.box 28 [.lo 41 .sp],.box 29 [.li .i64 0],.box 28 [.mu 41 .sp],.box 77 [.fn 48 [0]],.box 3 [.i .i64],.box 3 [.i .i64],.lp .normal]⟩
noncomputable def fu.l1.c {γ:Type} (YK:HdK γ) (K:gu→St→Option γ)  := ((fun q0 q1 q2 q3 q4 q5 q6 q7 q8 q9 af ah ai aj ak x0 x1=>(YK 10).bind fun h=>h [.pt (.one (.sl .sp q0)),.pt (.one (.v (.int .i64 q1)))] [.box 25 [.v (.int .i64 q2),.v (.int .i64 q3),.sl (.sl 41 .sp) q4,.sl .gr q5],.box 25 [.v (.int .i64 0),.v (.int .i64 0),.ow 28 (.sl 41 .sp) [],.ow 43 .gr []],.box 25 [.v (.int .i64 q6),.v (.int .i64 q7),.ow 28 (.sl 41 .sp) q8,.ow 43 .gr q9],.box 43 [.v (.int .i64 af),.sl .sp ah],.box 28 [.ow 41 .sp []],.box 29 [.v (.int .i64 0)],.box 28 [.mu 41 .sp ai],.box 77 [.fn 48 [0]],.box 3 [.v (.int .i64 aj)],.box 3 [.v (.int .i64 ak)],.lp .normal] (fun x bx=>fu.y0 x bx x0 x1)),(fun y1 y2 y3 y4 y5 y6 y7 y8 y9 aa ab ac y13 al=>K .ret ((⟨nOs 21,[.box 25 [.i .i64,.i .i64,.s (.sl 41 .sp),.s .gr],.box 25 [.li .i64 0,.li .i64 0,.lo 28 (.sl 41 .sp),.lo 43 .gr],.box 25 [.i .i64,.i .i64,.o 28 (.sl 41 .sp),.o 43 .gr],.box 43 [.i .i64,.s .sp],.box 28 [.lo 41 .sp],.box 29 [.i .i64],.box 28 [.mu 41 .sp],.box 77 [.fn 48 [0]],.box 3 [.i .i64],.box 3 [.i .i64],.lp .ret]⟩:PS).mk' [.i y1,.i y2,.l (.sl 41 .sp) y3,.l .gr y4,.i y5,.i y6,.l (.sl 41 .sp) y7,.l .gr y8,.i y9,.l .sp aa,.i ab,.l .sp ac,.i y13,.i al])),(fun y1 y2 y3 y4 y5 y6 y7 y8 y9 aa ab ac y13=>K (.exit 0) ((⟨nOs 21,[.box 25 [.i .i64,.i .i64,.s (.sl 41 .sp),.s .gr],.box 25 [.li .i64 0,.li .i64 0,.lo 28 (.sl 41 .sp),.lo 43 .gr],.box 25 [.i .i64,.i .i64,.o 28 (.sl 41 .sp),.o 43 .gr],.box 43 [.i .i64,.s .sp],.box 28 [.lo 41 .sp],.box 29 [.li .i64 0],.box 28 [.mu 41 .sp],.box 77 [.fn 48 [0]],.box 3 [.i .i64],.box 3 [.i .i64],.lp .normal]⟩:PS).mk' [.i y1,.i y2,.l (.sl 41 .sp) y3,.l .gr y4,.i y5,.i y6,.l (.sl 41 .sp) y7,.l .gr y8,.i y9,.l .sp aa,.l .sp ab,.i ac,.i y13])))
noncomputable def fu.l1.g {γ:Type} (YK:HdK γ) (k:Nat) (K:gu→St→Option γ):List Lf→Option γ
  | [.i c1,.i v2,.i v3,.i v4,.l (.sl 41 .sp) v5,.l .gr v6,.i v7,.i v8,.l (.sl 41 .sp) v9,.l .gr v10,.i v11,.l .sp v12,.l .sp v13,.i v14,.i v15]=>let q:=fu.l1.c YK K;fu.l1 q.1 q.2.1 q.2.2 c1 k v2 v3 v4 v5 v6 v7 v8 v9 v10 v11 v12 v13 v14 v15
  | _=>none
noncomputable def fu.l0.p:PS:=⟨[nO,.one (.i .i64),.one (.bp 0 0),nO,.one (.bp 1 0),nO,.one (.bp 2 0)]++nOs 27++[.one (.s .gr),.one (.i .i64),.one (.i .i64)]++nOs 52,[.box 25 [.i .i64,.i .i64,.s (.sl 41 .sp),.s .gr],.box 25 [.li .i64 0,.li .i64 0,.lo 28 (.sl 41 .sp),.lo 43 .gr],.box 25 [.i .i64,.i .i64,.o 28 (.sl 41 .sp),.o 43 .gr]]⟩
noncomputable def fu.l0.c {γ:Type} (YK:HdK γ) (K:gu→St→Option γ)  := ((fun y1 y2 y3 y4 y5 y6 y7 y8=>K .ret ((⟨nOs 4++[.one (.bp 1 0),.one (.li .i64 20),.one (.bp 2 0)]++nOs 82,[.box 25 [.i .i64,.i .i64,.s (.sl 41 .sp),.s .gr],.box 25 [.li .i64 0,.li .i64 0,.lo 28 (.sl 41 .sp),.lo 43 .gr],.box 25 [.i .i64,.i .i64,.o 28 (.sl 41 .sp),.o 43 .gr]]⟩:PS).mk' [.i y1,.i y2,.l (.sl 41 .sp) y3,.l .gr y4,.i y5,.i y6,.l (.sl 41 .sp) y7,.l .gr y8])),(fun y1 y2 y3 y4 y5 y6 y7 y8=>K (.exit 0) ((⟨nOs 4++[.one (.bp 1 0),nO,.one (.bp 2 0)]++nOs 82,[.box 25 [.i .i64,.i .i64,.s (.sl 41 .sp),.s .gr],.box 25 [.li .i64 0,.li .i64 0,.lo 28 (.sl 41 .sp),.lo 43 .gr],.box 25 [.i .i64,.i .i64,.o 28 (.sl 41 .sp),.o 43 .gr]]⟩:PS).mk' [.i y1,.i y2,.l (.sl 41 .sp) y3,.l .gr y4,.i y5,.i y6,.l (.sl 41 .sp) y7,.l .gr y8])))
noncomputable def fu.l0.g {γ:Type} (YK:HdK γ) (k:Nat) (K:gu→St→Option γ):List Lf→Option γ
  | [.i c1,.l .gr c2,.i c3,.i v4,.i v5,.i v6,.l (.sl 41 .sp) v7,.l .gr v8,.i v9,.i v10,.l (.sl 41 .sp) v11,.l .gr v12]=>let q:=fu.l0.c YK K;fu.l0 q.1 q.2 c1 c2 c3 k v4 v5 v6 v7 v8 v9 v10 v11 v12
  | _=>none
noncomputable def fu.l2.p:PS:=⟨[nO,.one (.i .i64),.one (.bp 3 0),nO,.one (.bp 4 0),nO,.one (.i .i64),.one (.i .i64),.one (.i .i64)]++nOs 18++[.one (.s (.sl 41 .sp)),.one (.i .i64),.one (.i .i64)]++nOs 62,[.box 25 [.i .i64,.i .i64,.s (.sl 41 .sp),.s .gr],.box 25 [.li .i64 0,.li .i64 0,.lo 28 (.sl 41 .sp),.lo 43 .gr],.no,.box 25 [.i .i64,.i .i64,.s (.sl 41 .sp),.s .gr],.box 25 [.li .i64 0,.li .i64 0,.lo 28 (.sl 41 .sp),.lo 43 .gr]]⟩
noncomputable def fu.l2.c {γ:Type} (YK:HdK γ) (K:gu→St→Option γ) (c1:Int) (c2:Int) (c3:Int) (c8:Int) (c9:Int) (c10:List (List P.S41)) (c11:List P.S43) (c12:Int) (c13:Int) (c14:List (List P.S41)) (c15:List P.S43):=(fun y1=>K (.exit 0) ((⟨[nO,.one (.i .i64),.one (.bp 3 0),nO,.one (.bp 4 0),nO,.one (.i .i64),.one (.i .i64),.one (.i .i64)]++nOs 83,[.box 25 [.i .i64,.i .i64,.s (.sl 41 .sp),.s .gr],.box 25 [.li .i64 0,.li .i64 0,.lo 28 (.sl 41 .sp),.lo 43 .gr],.no,.box 25 [.i .i64,.i .i64,.s (.sl 41 .sp),.s .gr],.box 25 [.li .i64 0,.li .i64 0,.lo 28 (.sl 41 .sp),.lo 43 .gr]]⟩:PS).mk' [.i c1,.i c2,.i c3,.i y1,.i c8,.i c9,.l (.sl 41 .sp) c10,.l .gr c11,.i c12,.i c13,.l (.sl 41 .sp) c14,.l .gr c15]))
noncomputable def fu.l2.g {γ:Type} (YK:HdK γ) (k:Nat) (K:gu→St→Option γ):List Lf→Option γ
  | [.i c1,.i c2,.i c3,.i v4,.l (.sl 41 .sp) c5,.i c6,.i v7,.i c8,.i c9,.l (.sl 41 .sp) c10,.l .gr c11,.i c12,.i c13,.l (.sl 41 .sp) c14,.l .gr c15]=>fu.l2 (fu.l2.c YK K c1 c2 c3 c8 c9 c10 c11 c12 c13 c14 c15) c5 c6 k v4 v7
  | _=>none
noncomputable def fu.l4.p:PS:=⟨[.one (.yl 12),nO,.one (.bp 9 0),.one (.bp 10 0),nO,nO,.one (.i .i64),.one (.i .i64)]++nOs 13,[.box 25 [.i .i64,.i .i64,.s (.sl 41 .sp),.s .gr],.box 25 [.li .i64 0,.li .i64 0,.lo 28 (.sl 41 .sp),.lo 43 .gr],.no,.box 25 [.i .i64,.i .i64,.s (.sl 41 .sp),.s .gr],.box 25 [.li .i64 0,.li .i64 0,.lo 28 (.sl 41 .sp),.lo 43 .gr],.box 25 [.i .i64,.i .i64,.o 28 (.sl 41 .sp),.lo 43 .gr],.box 28 [.lo 41 .sp],.box 29 [.li .i64 0],.box 28 [.mu 41 .sp],.box 77 [.fn 82 [3]],.box 3 [.i .i64],.box 3 [.i .i64],.lp .normal]⟩
noncomputable def fu.l4.c {γ:Type} (YK:HdK γ) (K:gu→St→Option γ)  := ((fun q0 q1 q2 q3 q4 q5 q6 q7 q8 q9 ah ai aj ak al am x0 x1=>(YK 12).bind fun h=>h [.pt (.one (.sl .sp q0)),.pt (.one (.v (.int .i64 q1)))] [.box 25 [.v (.int .i64 q2),.v (.int .i64 q3),.sl (.sl 41 .sp) q4,.sl .gr q5],.box 25 [.v (.int .i64 0),.v (.int .i64 0),.ow 28 (.sl 41 .sp) [],.ow 43 .gr []],.no,.box 25 [.v (.int .i64 q6),.v (.int .i64 q7),.sl (.sl 41 .sp) q8,.sl .gr q9],.box 25 [.v (.int .i64 0),.v (.int .i64 0),.ow 28 (.sl 41 .sp) [],.ow 43 .gr []],.box 25 [.v (.int .i64 ah),.v (.int .i64 ai),.ow 28 (.sl 41 .sp) aj,.ow 43 .gr []],.box 28 [.ow 41 .sp []],.box 29 [.v (.int .i64 0)],.box 28 [.mu 41 .sp ak],.box 77 [.fn 82 [3]],.box 3 [.v (.int .i64 al)],.box 3 [.v (.int .i64 am)],.lp .normal] (fun x bx=>fu.y1 x bx x0 x1)),(fun y1 y2 y3 y4 y5 y6 y7 y8 y9 aa ab ac y13 af ao=>K .ret ((⟨nOs 21,[.box 25 [.i .i64,.i .i64,.s (.sl 41 .sp),.s .gr],.box 25 [.li .i64 0,.li .i64 0,.lo 28 (.sl 41 .sp),.lo 43 .gr],.no,.box 25 [.i .i64,.i .i64,.s (.sl 41 .sp),.s .gr],.box 25 [.li .i64 0,.li .i64 0,.lo 28 (.sl 41 .sp),.lo 43 .gr],.box 25 [.i .i64,.i .i64,.o 28 (.sl 41 .sp),.lo 43 .gr],.box 28 [.lo 41 .sp],.box 29 [.i .i64],.box 28 [.mu 41 .sp],.box 77 [.fn 82 [3]],.box 3 [.i .i64],.box 3 [.i .i64],.lp .ret]⟩:PS).mk' [.i y1,.i y2,.l (.sl 41 .sp) y3,.l .gr y4,.i y5,.i y6,.l (.sl 41 .sp) y7,.l .gr y8,.i y9,.i aa,.l (.sl 41 .sp) ab,.i ac,.l .sp y13,.i af,.i ao])),(fun y1 y2 y3 y4 y5 y6 y7 y8 y9 aa ab ac y13 af=>K (.exit 0) ((⟨nOs 21,[.box 25 [.i .i64,.i .i64,.s (.sl 41 .sp),.s .gr],.box 25 [.li .i64 0,.li .i64 0,.lo 28 (.sl 41 .sp),.lo 43 .gr],.no,.box 25 [.i .i64,.i .i64,.s (.sl 41 .sp),.s .gr],.box 25 [.li .i64 0,.li .i64 0,.lo 28 (.sl 41 .sp),.lo 43 .gr],.box 25 [.i .i64,.i .i64,.o 28 (.sl 41 .sp),.lo 43 .gr],.box 28 [.lo 41 .sp],.box 29 [.li .i64 0],.box 28 [.mu 41 .sp],.box 77 [.fn 82 [3]],.box 3 [.i .i64],.box 3 [.i .i64],.lp .normal]⟩:PS).mk' [.i y1,.i y2,.l (.sl 41 .sp) y3,.l .gr y4,.i y5,.i y6,.l (.sl 41 .sp) y7,.l .gr y8,.i y9,.i aa,.l (.sl 41 .sp) ab,.l .sp ac,.i y13,.i af])))
noncomputable def fu.l4.g {γ:Type} (YK:HdK γ) (k:Nat) (K:gu→St→Option γ):List Lf→Option γ
  | [.i c1,.i v2,.i v3,.i v4,.l (.sl 41 .sp) v5,.l .gr v6,.i v7,.i v8,.l (.sl 41 .sp) v9,.l .gr v10,.i v11,.i v12,.l (.sl 41 .sp) v13,.l .sp v14,.i v15,.i v16]=>let q:=fu.l4.c YK K;fu.l4 q.1 q.2.1 q.2.2 c1 k v2 v3 v4 v5 v6 v7 v8 v9 v10 v11 v12 v13 v14 v15 v16
  | _=>none
noncomputable def fu.l3.p:PS:=⟨[nO,.one (.i .i64),.one (.bp 3 0),nO,.one (.bp 4 0)]++nOs 6++[.one (.bp 5 0)]++nOs 55++[.one (.i .i64),.one (.i .i64)]++nOs 23,[.box 25 [.i .i64,.i .i64,.s (.sl 41 .sp),.s .gr],.box 25 [.li .i64 0,.li .i64 0,.lo 28 (.sl 41 .sp),.lo 43 .gr],.no,.box 25 [.i .i64,.i .i64,.s (.sl 41 .sp),.s .gr],.box 25 [.li .i64 0,.li .i64 0,.lo 28 (.sl 41 .sp),.lo 43 .gr],.box 25 [.i .i64,.i .i64,.o 28 (.sl 41 .sp),.lo 43 .gr]]⟩
noncomputable def fu.l3.c {γ:Type} (YK:HdK γ) (K:gu→St→Option γ)  := ((fun y1 y2 y3 y4 y5 y6 y7 y8 y9 aa ab ac=>K .ret ((⟨nOs 4++[.one (.bp 4 0),.one (.i .i64)]++nOs 5++[.one (.bp 5 0)]++nOs 80,[.box 25 [.i .i64,.i .i64,.s (.sl 41 .sp),.s .gr],.box 25 [.li .i64 0,.li .i64 0,.lo 28 (.sl 41 .sp),.lo 43 .gr],.no,.box 25 [.i .i64,.i .i64,.s (.sl 41 .sp),.s .gr],.box 25 [.li .i64 0,.li .i64 0,.lo 28 (.sl 41 .sp),.lo 43 .gr],.box 25 [.i .i64,.i .i64,.o 28 (.sl 41 .sp),.lo 43 .gr]]⟩:PS).mk' [.i y1,.i y2,.i y3,.l (.sl 41 .sp) y4,.l .gr y5,.i y6,.i y7,.l (.sl 41 .sp) y8,.l .gr y9,.i aa,.i ab,.l (.sl 41 .sp) ac])),(fun y1 y2 y3 y4 y5 y6 y7 y8 y9 aa ab=>K (.exit 2) ((⟨nOs 4++[.one (.bp 4 0)]++nOs 6++[.one (.bp 5 0)]++nOs 80,[.box 25 [.i .i64,.i .i64,.s (.sl 41 .sp),.s .gr],.box 25 [.li .i64 0,.li .i64 0,.lo 28 (.sl 41 .sp),.lo 43 .gr],.no,.box 25 [.i .i64,.i .i64,.s (.sl 41 .sp),.s .gr],.box 25 [.li .i64 0,.li .i64 0,.lo 28 (.sl 41 .sp),.lo 43 .gr],.box 25 [.i .i64,.i .i64,.o 28 (.sl 41 .sp),.lo 43 .gr]]⟩:PS).mk' [.i y1,.i y2,.l (.sl 41 .sp) y3,.l .gr y4,.i y5,.i y6,.l (.sl 41 .sp) y7,.l .gr y8,.i y9,.i aa,.l (.sl 41 .sp) ab])))
noncomputable def fu.l3.g {γ:Type} (YK:HdK γ) (k:Nat) (K:gu→St→Option γ):List Lf→Option γ
  | [.i c1,.i c2,.i v3,.i v4,.i v5,.l (.sl 41 .sp) v6,.l .gr v7,.i v8,.i v9,.l (.sl 41 .sp) v10,.l .gr v11,.i v12,.i v13,.l (.sl 41 .sp) v14]=>let q:=fu.l3.c YK K;fu.l3 q.1 q.2 c1 c2 k v3 v4 v5 v6 v7 v8 v9 v10 v11 v12 v13 v14
  | _=>none
noncomputable def fu.C {γ:Type}:Ctx γ:=mkC (fun k=>mkE [(11,iM.m k),(46,iI.m k),(49,jl.m k),(73,jv.m k),(81,iY.m k),(83,jD.m k)] [84]) [(19,Tryz.f19),(45,Tryz.f45),(47,Tryz.f47),(48,Tryz.f48),(82,Tryz.f82),(84,Tryz.f84),(120,Tryz.f120)] [(19,mkA [23,27,77,87] [(0,[1,2,4,6,34,35,36])] [(0,[4,5,6])] []),(45,mkA [48,56,65,85,91] [(0,[1,2,4,6,7,8,27,28,29]),(2,[1,2,4,11,67,68])] [(0,[1,2,4,6,7,8]),(2,[4,5,11])] []),(47,mkA [19,55,58] [] [] [(1,[],[.mu (.bx 8 0)]),(7,[.op (.bx 8 0)],[.cl (.bx 8 0)]),(8,[.op (.bx 8 0)],[.cl (.bx 8 0)]),(11,[.fz (.bx 8 0)],[])]),(48,mkA [8] [] [] []),(82,mkA [8] [] [] []),(84,mkA [] [] [] []),(120,mkA [] [(0,[0,2,3,6,7])] [(0,[])] [])] [⟨2,120,0,jy [(fu.l4.p,fu.l4.g)]⟩,⟨3,120,0,jy [(fu.l1.p,fu.l1.g)]⟩,⟨4,45,0,jy [(fu.l2.p,fu.l2.g)]⟩,⟨4,45,2,jy [(fu.l3.p,fu.l3.g)]⟩,⟨5,19,0,jy [(fu.l0.p,fu.l0.g)]⟩] [⟨3,120,10,fu.y0T⟩,⟨2,120,12,fu.y1T⟩]
theorem fu.l1.eq {γ:Type} (YK:HdK γ) (rl:Option Nat) (K:gu→St→Option γ) (c1:Int):∀ k:Nat,(fun (v2:Int) (v3:Int) (v4:Int) (v5:List (List P.S41)) (v6:List P.S43) (v7:Int) (v8:Int) (v9:List (List P.S41)) (v10:List P.S43) (v11:Int) (v12:List P.S41) (v13:List P.S41) (v14:Int) (v15:Int)=>fu.C.lK 3 120 0 Tryz.f120 YK rl 11 k (fu.l1.p.mk' [.i c1,.i v2,.i v3,.i v4,.l (.sl 41 .sp) v5,.l .gr v6,.i v7,.i v8,.l (.sl 41 .sp) v9,.l .gr v10,.i v11,.l .sp v12,.l .sp v13,.i v14,.i v15]) K)=(fun (v2:Int) (v3:Int) (v4:Int) (v5:List (List P.S41)) (v6:List P.S43) (v7:Int) (v8:Int) (v9:List (List P.S41)) (v10:List P.S43) (v11:Int) (v12:List P.S41) (v13:List P.S41) (v14:Int) (v15:Int)=>fu.l1.g YK k K [.i c1,.i v2,.i v3,.i v4,.l (.sl 41 .sp) v5,.l .gr v6,.i v7,.i v8,.l (.sl 41 .sp) v9,.l .gr v10,.i v11,.l .sp v12,.l .sp v13,.i v14,.i v15]):=iD (fun R k v2 v3 v4 v5 v6 v7 v8 v9 v10 v11 v12 v13 v14 v15=>fu.l1T (fu.l1.c YK K).1 (fu.l1.c YK K).2.1 (fu.l1.c YK K).2.2 c1 R k v2 v3 v4 v5 v6 v7 v8 v9 v10 v11 v12 v13 v14 v15) (by kernel_rfl) (fun k=>by kernel_rfl) (fun k=>by kernel_rfl)
theorem fu.l0.eq {γ:Type} (YK:HdK γ) (rl:Option Nat) (K:gu→St→Option γ) (c1:Int) (c2:List P.S43) (c3:Int):∀ k:Nat,(fun (v4:Int) (v5:Int) (v6:Int) (v7:List (List P.S41)) (v8:List P.S43) (v9:Int) (v10:Int) (v11:List (List P.S41)) (v12:List P.S43)=>fu.C.lK 5 19 0 Tryz.f19 YK rl 3 k (fu.l0.p.mk' [.i c1,.l .gr c2,.i c3,.i v4,.i v5,.i v6,.l (.sl 41 .sp) v7,.l .gr v8,.i v9,.i v10,.l (.sl 41 .sp) v11,.l .gr v12]) K)=(fun (v4:Int) (v5:Int) (v6:Int) (v7:List (List P.S41)) (v8:List P.S43) (v9:Int) (v10:Int) (v11:List (List P.S41)) (v12:List P.S43)=>fu.l0.g YK k K [.i c1,.l .gr c2,.i c3,.i v4,.i v5,.i v6,.l (.sl 41 .sp) v7,.l .gr v8,.i v9,.i v10,.l (.sl 41 .sp) v11,.l .gr v12]):=iD (fun R k v4 v5 v6 v7 v8 v9 v10 v11 v12=>fu.l0T (fu.l0.c YK K).1 (fu.l0.c YK K).2 c1 c2 c3 R k v4 v5 v6 v7 v8 v9 v10 v11 v12) (by kernel_rfl) (fun k=>by kernel_rfl) (fun k=>by kernel_rfl)
theorem fu.l2.eq {γ:Type} (YK:HdK γ) (rl:Option Nat) (K:gu→St→Option γ) (c1:Int) (c2:Int) (c3:Int) (c5:List (List P.S41)) (c6:Int) (c8:Int) (c9:Int) (c10:List (List P.S41)) (c11:List P.S43) (c12:Int) (c13:Int) (c14:List (List P.S41)) (c15:List P.S43):∀ k:Nat,(fun (v4:Int) (v7:Int)=>fu.C.lK 4 45 0 Tryz.f45 YK rl 5 k (fu.l2.p.mk' [.i c1,.i c2,.i c3,.i v4,.l (.sl 41 .sp) c5,.i c6,.i v7,.i c8,.i c9,.l (.sl 41 .sp) c10,.l .gr c11,.i c12,.i c13,.l (.sl 41 .sp) c14,.l .gr c15]) K)=(fun (v4:Int) (v7:Int)=>fu.l2.g YK k K [.i c1,.i c2,.i c3,.i v4,.l (.sl 41 .sp) c5,.i c6,.i v7,.i c8,.i c9,.l (.sl 41 .sp) c10,.l .gr c11,.i c12,.i c13,.l (.sl 41 .sp) c14,.l .gr c15]):=iD (fun R k v4 v7=>fu.l2T (fu.l2.c YK K c1 c2 c3 c8 c9 c10 c11 c12 c13 c14 c15) c5 c6 R k v4 v7) (by kernel_rfl) (fun k=>by kernel_rfl) (fun k=>by kernel_rfl)
theorem fu.l4.eq {γ:Type} (YK:HdK γ) (rl:Option Nat) (K:gu→St→Option γ) (c1:Int):∀ k:Nat,(fun (v2:Int) (v3:Int) (v4:Int) (v5:List (List P.S41)) (v6:List P.S43) (v7:Int) (v8:Int) (v9:List (List P.S41)) (v10:List P.S43) (v11:Int) (v12:Int) (v13:List (List P.S41)) (v14:List P.S41) (v15:Int) (v16:Int)=>fu.C.lK 2 120 0 Tryz.f120 YK rl 13 k (fu.l4.p.mk' [.i c1,.i v2,.i v3,.i v4,.l (.sl 41 .sp) v5,.l .gr v6,.i v7,.i v8,.l (.sl 41 .sp) v9,.l .gr v10,.i v11,.i v12,.l (.sl 41 .sp) v13,.l .sp v14,.i v15,.i v16]) K)=(fun (v2:Int) (v3:Int) (v4:Int) (v5:List (List P.S41)) (v6:List P.S43) (v7:Int) (v8:Int) (v9:List (List P.S41)) (v10:List P.S43) (v11:Int) (v12:Int) (v13:List (List P.S41)) (v14:List P.S41) (v15:Int) (v16:Int)=>fu.l4.g YK k K [.i c1,.i v2,.i v3,.i v4,.l (.sl 41 .sp) v5,.l .gr v6,.i v7,.i v8,.l (.sl 41 .sp) v9,.l .gr v10,.i v11,.i v12,.l (.sl 41 .sp) v13,.l .sp v14,.i v15,.i v16]):=iD (fun R k v2 v3 v4 v5 v6 v7 v8 v9 v10 v11 v12 v13 v14 v15 v16=>fu.l4T (fu.l4.c YK K).1 (fu.l4.c YK K).2.1 (fu.l4.c YK K).2.2 c1 R k v2 v3 v4 v5 v6 v7 v8 v9 v10 v11 v12 v13 v14 v15 v16) (by kernel_rfl) (fun k=>by kernel_rfl) (fun k=>by kernel_rfl)
theorem fu.l3.eq {γ:Type} (YK:HdK γ) (rl:Option Nat) (K:gu→St→Option γ) (c1:Int) (c2:Int):∀ k:Nat,(fun (v3:Int) (v4:Int) (v5:Int) (v6:List (List P.S41)) (v7:List P.S43) (v8:Int) (v9:Int) (v10:List (List P.S41)) (v11:List P.S43) (v12:Int) (v13:Int) (v14:List (List P.S41))=>fu.C.lK 4 45 2 Tryz.f45 YK rl 6 k (fu.l3.p.mk' [.i c1,.i c2,.i v3,.i v4,.i v5,.l (.sl 41 .sp) v6,.l .gr v7,.i v8,.i v9,.l (.sl 41 .sp) v10,.l .gr v11,.i v12,.i v13,.l (.sl 41 .sp) v14]) K)=(fun (v3:Int) (v4:Int) (v5:Int) (v6:List (List P.S41)) (v7:List P.S43) (v8:Int) (v9:Int) (v10:List (List P.S41)) (v11:List P.S43) (v12:Int) (v13:Int) (v14:List (List P.S41))=>fu.l3.g YK k K [.i c1,.i c2,.i v3,.i v4,.i v5,.l (.sl 41 .sp) v6,.l .gr v7,.i v8,.i v9,.l (.sl 41 .sp) v10,.l .gr v11,.i v12,.i v13,.l (.sl 41 .sp) v14]):=iD (fun R k v3 v4 v5 v6 v7 v8 v9 v10 v11 v12 v13 v14=>fu.l3T (fu.l3.c YK K).1 (fu.l3.c YK K).2 c1 c2 R k v3 v4 v5 v6 v7 v8 v9 v10 v11 v12 v13 v14) (by kernel_rfl) (fun k=>by kernel_rfl) (fun k=>by kernel_rfl)
theorem fu.iN {γ:Type}:(fu.C (γ:=γ)).Ok:=⟨(all_cons (fun k=>by kernel_rfl) (all_cons (fun k=>by kernel_rfl) (all_cons (fun k=>by kernel_rfl) (all_cons (fun k=>by kernel_rfl) (all_cons (fun k=>by kernel_rfl) (all_cons (fun k=>by kernel_rfl) (all_cons (fun k=>by kernel_rfl) all_nil))))))),(all_cons (by kernel_rfl) (all_cons (by kernel_rfl) (all_cons (by kernel_rfl) (all_cons (by kernel_rfl) (all_cons (by kernel_rfl) (all_cons (by kernel_rfl) (all_cons (by kernel_rfl) all_nil))))))),(all_cons fu.mV (all_cons fu.uZ all_nil))⟩
theorem fu.e0 {γ:Type}:jc (fu.C (γ:=γ)) ⟨2,120,0,jy [(fu.l4.p,fu.l4.g)]⟩:=fu.iN.lS Tryz.f120 [] (by kernel_rfl) (by kernel_rfl) (by kernel_rfl) (all_cons jC (all_cons jC (all_cons jC (all_cons jC (all_cons jC all_nil))))) (all_cons (fun YK rl k ls K v hv=>(show fu.l4.g YK k K ls=some v→_ from fun hv=>by
  unfold fu.l4.g at hv;split at hv
  · exact (congrFun (congrFun (congrFun (congrFun (congrFun (congrFun (congrFun (congrFun (congrFun (congrFun (congrFun (congrFun (congrFun (congrFun (congrFun (fu.l4.eq YK rl K _ k) _) _) _) _) _) _) _) _) _) _) _) _) _) _) _).trans hv
  · cases hv) hv) all_nil)
theorem fu.e1 {γ:Type}:jc (fu.C (γ:=γ)) ⟨3,120,0,jy [(fu.l1.p,fu.l1.g)]⟩:=fu.iN.lS Tryz.f120 [] (by kernel_rfl) (by kernel_rfl) (by kernel_rfl) (all_cons (fun _=>fu.e0) (all_cons jC (all_cons jC (all_cons jC (all_cons jC all_nil))))) (all_cons (fun YK rl k ls K v hv=>(show fu.l1.g YK k K ls=some v→_ from fun hv=>by
  unfold fu.l1.g at hv;split at hv
  · exact (congrFun (congrFun (congrFun (congrFun (congrFun (congrFun (congrFun (congrFun (congrFun (congrFun (congrFun (congrFun (congrFun (congrFun (fu.l1.eq YK rl K _ k) _) _) _) _) _) _) _) _) _) _) _) _) _) _).trans hv
  · cases hv) hv) all_nil)
theorem fu.e2 {γ:Type}:jc (fu.C (γ:=γ)) ⟨4,45,0,jy [(fu.l2.p,fu.l2.g)]⟩:=fu.iN.lS Tryz.f45 [] (by kernel_rfl) (by kernel_rfl) (by kernel_rfl) (all_cons (fun _=>fu.e0) (all_cons (fun _=>fu.e1) (all_cons jC (all_cons jC (all_cons jC all_nil))))) (all_cons (fun YK rl k ls K v hv=>(show fu.l2.g YK k K ls=some v→_ from fun hv=>by
  unfold fu.l2.g at hv;split at hv
  · exact (congrFun (congrFun (fu.l2.eq YK rl K _ _ _ _ _ _ _ _ _ _ _ _ _ k) _) _).trans hv
  · cases hv) hv) all_nil)
theorem fu.e3 {γ:Type}:jc (fu.C (γ:=γ)) ⟨4,45,2,jy [(fu.l3.p,fu.l3.g)]⟩:=fu.iN.lS Tryz.f45 [] (by kernel_rfl) (by kernel_rfl) (by kernel_rfl) (all_cons (fun _=>fu.e0) (all_cons (fun _=>fu.e1) (all_cons jC (all_cons jC (all_cons jC all_nil))))) (all_cons (fun YK rl k ls K v hv=>(show fu.l3.g YK k K ls=some v→_ from fun hv=>by
  unfold fu.l3.g at hv;split at hv
  · exact (congrFun (congrFun (congrFun (congrFun (congrFun (congrFun (congrFun (congrFun (congrFun (congrFun (congrFun (congrFun (fu.l3.eq YK rl K _ _ k) _) _) _) _) _) _) _) _) _) _) _) _).trans hv
  · cases hv) hv) all_nil)
theorem fu.e4 {γ:Type}:jc (fu.C (γ:=γ)) ⟨5,19,0,jy [(fu.l0.p,fu.l0.g)]⟩:=fu.iN.lS Tryz.f19 [] (by kernel_rfl) (by kernel_rfl) (by kernel_rfl) (all_cons (fun _=>fu.e0) (all_cons (fun _=>fu.e1) (all_cons (fun _=>fu.e2) (all_cons (fun _=>fu.e3) (all_cons jC all_nil))))) (all_cons (fun YK rl k ls K v hv=>(show fu.l0.g YK k K ls=some v→_ from fun hv=>by
  unfold fu.l0.g at hv;split at hv
  · exact (congrFun (congrFun (congrFun (congrFun (congrFun (congrFun (congrFun (congrFun (congrFun (fu.l0.eq YK rl K _ _ _ k) _) _) _) _) _) _) _) _) _).trans hv
  · cases hv) hv) all_nil)
theorem fu.ok (k:Nat):jK Tryz.prog 19 (fu.m k).s:=okW fu.iN 5 Tryz.f19 k (all_cons ⟨Tryz.f84,Tryz.func84,by kernel_rfl⟩ all_nil) (fun k=>all_cons (iM.ok k) (all_cons (iI.ok k) (all_cons (jl.ok k) (all_cons (jv.ok k) (all_cons (iY.ok k) (all_cons (jD.ok k) (all_nil))))))) (all_cons ⟨Tryz.func19,by kernel_rfl⟩ (all_cons ⟨Tryz.func45,by kernel_rfl⟩ (all_cons ⟨Tryz.func47,by kernel_rfl⟩ (all_cons ⟨Tryz.func48,by kernel_rfl⟩ (all_cons ⟨Tryz.func82,by kernel_rfl⟩ (all_cons ⟨Tryz.func84,by kernel_rfl⟩ (all_cons ⟨Tryz.func120,by kernel_rfl⟩ all_nil))))))) (all_cons fu.e0 (all_cons fu.e1 (all_cons fu.e2 (all_cons fu.e3 (all_cons fu.e4 all_nil))))) (by kernel_rfl) (by kernel_rfl) (fun a=>by kernel_rfl)
noncomputable def jH.m (k:Nat):Sm:=jM [.fm,(.int .i64)] [.pl .sp,.pl .bool] (fun a=>jH.f k a.1.f0 a.1.f1 a.1.f2 a.1.f3 a.2.1)
noncomputable def jH.C {γ:Type}:Ctx γ:=mkC (fun k=>mkE [(40,iL.m k),(52,iA.m k)] []) [(26,Tryz.f26)] [(26,mkA [10] [] [] [])] [] []
theorem jH.iN {γ:Type}:(jH.C (γ:=γ)).Ok:=⟨(all_cons (fun k=>by kernel_rfl) all_nil),(all_cons (by kernel_rfl) all_nil),all_nil⟩
theorem jH.ok (k:Nat):jK Tryz.prog 26 (jH.m k).s:=okW jH.iN 0 Tryz.f26 k all_nil (fun k=>all_cons (iL.ok k) (all_cons (iA.ok k) (all_nil))) (all_cons ⟨Tryz.func26,by kernel_rfl⟩ all_nil) all_nil (by kernel_rfl) (by kernel_rfl) (fun a=>by kernel_rfl)
noncomputable def jY.m (k:Nat):Sm:=jM [.fm] [.pl (.int .i64),.pl (.int .i64),.pl .bool] (fun a=>jY.f k a.1.f0 a.1.f1 a.1.f2 a.1.f3)
noncomputable def jY.C {γ:Type}:Ctx γ:=mkC (fun k=>mkE [(50,fG.m k),(98,fH.m k)] []) [(59,Tryz.f59)] [(59,mkA [] [] [] [])] [] []
theorem jY.iN {γ:Type}:(jY.C (γ:=γ)).Ok:=⟨(all_cons (fun k=>by kernel_rfl) all_nil),(all_cons (by kernel_rfl) all_nil),all_nil⟩
theorem jY.ok (k:Nat):jK Tryz.prog 59 (jY.m k).s:=okW jY.iN 0 Tryz.f59 k all_nil (fun k=>all_cons (fG.ok k) (all_cons (fH.ok k) (all_nil))) (all_cons ⟨Tryz.func59,by kernel_rfl⟩ all_nil) all_nil (by kernel_rfl) (by kernel_rfl) (fun a=>by kernel_rfl)
noncomputable def jZ.m (k:Nat):Sm:=jM [.fm,(.int .i64)] [.pl (.int .i64),.pl .bool] (fun a=>jZ.f k a.1.f0 a.1.f1 a.1.f2 a.1.f3 a.2.1)
noncomputable def jZ.C {γ:Type}:Ctx γ:=mkC (fun k=>mkE [(59,jY.m k),(60,iB.m k)] []) [(28,Tryz.f28)] [(28,mkA [] [] [] [])] [] []
theorem jZ.iN {γ:Type}:(jZ.C (γ:=γ)).Ok:=⟨(all_cons (fun k=>by kernel_rfl) all_nil),(all_cons (by kernel_rfl) all_nil),all_nil⟩
theorem jZ.ok (k:Nat):jK Tryz.prog 28 (jZ.m k).s:=okW jZ.iN 0 Tryz.f28 k all_nil (fun k=>all_cons (jY.ok k) (all_cons (iB.ok k) (all_nil))) (all_cons ⟨Tryz.func28,by kernel_rfl⟩ all_nil) all_nil (by kernel_rfl) (by kernel_rfl) (fun a=>by kernel_rfl)
noncomputable def iT.m (k:Nat):Sm:=jM [] [.pl .fm] (fun a=>iT.f k)
noncomputable def iT.C {γ:Type}:Ctx γ:=mkC (fun k=>mkE [] []) [(36,Tryz.f36)] [(36,mkA [] [] [] [])] [] []
theorem iT.iN {γ:Type}:(iT.C (γ:=γ)).Ok:=⟨(all_cons (fun k=>by kernel_rfl) all_nil),(all_cons (by kernel_rfl) all_nil),all_nil⟩
theorem iT.ok (k:Nat):jK Tryz.prog 36 (iT.m k).s:=okW iT.iN 0 Tryz.f36 k all_nil (fun k=>all_nil) (all_cons ⟨Tryz.func36,by kernel_rfl⟩ all_nil) all_nil (by kernel_rfl) (by kernel_rfl) (fun a=>by kernel_rfl)
end Go.Proofs.YtongeknogcboiaaGreat.R
namespace Go.Proofs.YtongeknogcboiaaGreat.R
open M Go.RowKit Go.Proofs.YtongeknogcboiaaGreatW.fK Go.Proofs.YtongeknogcboiaaGreatW.gN Go.Proofs.YtongeknogcboiaaGreatW.iC
set_option linter.unusedVariables false
noncomputable def fZ.m (k:Nat):Sm:=jM [] [.pl .bool] (fun a=>fZ.f k)
noncomputable def fZ.l0.p:PS:=⟨[nO,.one (.bp 0 0),.one (.bp 1 0),.one (.bp 2 0),nO,.one (.bp 3 0)]++nOs 88,[.box 25 [.i .i64,.i .i64,.s (.sl 41 .sp),.s .gr],.box 25 [.i .i64,.i .i64,.s (.sl 41 .sp),.s .gr],.box 25 [.i .i64,.i .i64,.s (.sl 41 .sp),.s .gr],.box 25 [.i .i64,.i .i64,.s (.sl 41 .sp),.s .gr],.box 41 [.i .i64,.i .i64]]⟩
noncomputable def fZ.l0.c {γ:Type} (YK:HdK γ) (K:gu→St→Option γ)  := ((fun y1 y2 y3 y4 y5 y6 y7 y8 y9 aa ab ac y13 af ah ai aj ak al=>K .ret ((⟨[.one (.b)]++nOs 93,[.box 25 [.i .i64,.i .i64,.s (.sl 41 .sp),.s .gr],.box 25 [.i .i64,.i .i64,.s (.sl 41 .sp),.s .gr],.box 25 [.i .i64,.i .i64,.s (.sl 41 .sp),.s .gr],.box 25 [.i .i64,.i .i64,.s (.sl 41 .sp),.s .gr],.box 41 [.i .i64,.i .i64],.box 3 [.li .i64 1],.box 4 [.lb true],.box 3 [.li .i64 7],.box 3 [.li .i64 11],.box 4 [.lb true],.box 3 [.li .i64 0],.box 4 [.lb false],.box 3 [.li .i64 0],.box 4 [.lb false],.box 3 [.li .i64 0],.box 3 [.li .i64 1],.box 4 [.lb true],.box 3 [.li .i64 0],.box 4 [.lb true]]⟩:PS).mk' [.b y1,.i y2,.i y3,.l (.sl 41 .sp) y4,.l .gr y5,.i y6,.i y7,.l (.sl 41 .sp) y8,.l .gr y9,.i aa,.i ab,.l (.sl 41 .sp) ac,.l .gr y13,.i af,.i ah,.l (.sl 41 .sp) ai,.l .gr aj,.i ak,.i al])),(fun y1 y2 y3 y4 y5 y6 y7 y8 y9 aa ab ac y13 af ah ai aj ak=>K .ret ((⟨[.one (.lb false)]++nOs 93,[.box 25 [.i .i64,.i .i64,.s (.sl 41 .sp),.s .gr],.box 25 [.i .i64,.i .i64,.s (.sl 41 .sp),.s .gr],.box 25 [.i .i64,.i .i64,.s (.sl 41 .sp),.s .gr],.box 25 [.i .i64,.i .i64,.s (.sl 41 .sp),.s .gr],.box 41 [.i .i64,.i .i64],.box 3 [.li .i64 1],.box 4 [.lb true],.box 3 [.li .i64 7],.box 3 [.li .i64 11],.box 4 [.lb true],.box 3 [.li .i64 0],.box 4 [.lb false],.box 3 [.li .i64 0],.box 4 [.lb false],.box 3 [.li .i64 0],.box 3 [.li .i64 1],.box 4 [.lb true],.box 3 [.li .i64 0],.box 4 [.lb true]]⟩:PS).mk' [.i y1,.i y2,.l (.sl 41 .sp) y3,.l .gr y4,.i y5,.i y6,.l (.sl 41 .sp) y7,.l .gr y8,.i y9,.i aa,.l (.sl 41 .sp) ab,.l .gr ac,.i y13,.i af,.l (.sl 41 .sp) ah,.l .gr ai,.i aj,.i ak])),(fun y1 y2 y3 y4 y5 y6 y7 y8 y9 aa ab ac y13 af ah ai aj ak=>K .ret ((⟨[.one (.lb false)]++nOs 93,[.box 25 [.i .i64,.i .i64,.s (.sl 41 .sp),.s .gr],.box 25 [.i .i64,.i .i64,.s (.sl 41 .sp),.s .gr],.box 25 [.i .i64,.i .i64,.s (.sl 41 .sp),.s .gr],.box 25 [.i .i64,.i .i64,.s (.sl 41 .sp),.s .gr],.box 41 [.i .i64,.i .i64],.box 3 [.li .i64 1],.box 4 [.lb true],.box 3 [.li .i64 7],.box 3 [.li .i64 11],.box 4 [.lb true],.box 3 [.li .i64 0],.box 4 [.lb false],.box 3 [.li .i64 0],.box 4 [.lb false],.box 3 [.li .i64 0],.box 3 [.li .i64 1],.box 4 [.lb true]]⟩:PS).mk' [.i y1,.i y2,.l (.sl 41 .sp) y3,.l .gr y4,.i y5,.i y6,.l (.sl 41 .sp) y7,.l .gr y8,.i y9,.i aa,.l (.sl 41 .sp) ab,.l .gr ac,.i y13,.i af,.l (.sl 41 .sp) ah,.l .gr ai,.i aj,.i ak])),(fun y1 y2 y3 y4 y5 y6 y7 y8 y9 aa ab ac y13 af ah ai aj ak=>K .ret ((⟨[.one (.lb false)]++nOs 93,[.box 25 [.i .i64,.i .i64,.s (.sl 41 .sp),.s .gr],.box 25 [.i .i64,.i .i64,.s (.sl 41 .sp),.s .gr],.box 25 [.i .i64,.i .i64,.s (.sl 41 .sp),.s .gr],.box 25 [.i .i64,.i .i64,.s (.sl 41 .sp),.s .gr],.box 41 [.i .i64,.i .i64],.box 3 [.li .i64 1],.box 4 [.lb true],.box 3 [.li .i64 7],.box 3 [.li .i64 11],.box 4 [.lb true],.box 3 [.li .i64 0],.box 4 [.lb false],.box 3 [.li .i64 0],.box 4 [.lb false]]⟩:PS).mk' [.i y1,.i y2,.l (.sl 41 .sp) y3,.l .gr y4,.i y5,.i y6,.l (.sl 41 .sp) y7,.l .gr y8,.i y9,.i aa,.l (.sl 41 .sp) ab,.l .gr ac,.i y13,.i af,.l (.sl 41 .sp) ah,.l .gr ai,.i aj,.i ak])),(fun y1 y2 y3 y4 y5 y6 y7 y8 y9 aa ab ac y13 af ah ai aj ak=>K .ret ((⟨[.one (.lb false)]++nOs 93,[.box 25 [.i .i64,.i .i64,.s (.sl 41 .sp),.s .gr],.box 25 [.i .i64,.i .i64,.s (.sl 41 .sp),.s .gr],.box 25 [.i .i64,.i .i64,.s (.sl 41 .sp),.s .gr],.box 25 [.i .i64,.i .i64,.s (.sl 41 .sp),.s .gr],.box 41 [.i .i64,.i .i64],.box 3 [.li .i64 1],.box 4 [.lb true],.box 3 [.li .i64 7],.box 3 [.li .i64 11],.box 4 [.lb true],.box 3 [.li .i64 0],.box 4 [.lb false]]⟩:PS).mk' [.i y1,.i y2,.l (.sl 41 .sp) y3,.l .gr y4,.i y5,.i y6,.l (.sl 41 .sp) y7,.l .gr y8,.i y9,.i aa,.l (.sl 41 .sp) ab,.l .gr ac,.i y13,.i af,.l (.sl 41 .sp) ah,.l .gr ai,.i aj,.i ak])),(fun y1 y2 y3 y4 y5 y6 y7 y8 y9 aa ab ac y13 af ah ai aj ak=>K .ret ((⟨[.one (.lb false)]++nOs 93,[.box 25 [.i .i64,.i .i64,.s (.sl 41 .sp),.s .gr],.box 25 [.i .i64,.i .i64,.s (.sl 41 .sp),.s .gr],.box 25 [.i .i64,.i .i64,.s (.sl 41 .sp),.s .gr],.box 25 [.i .i64,.i .i64,.s (.sl 41 .sp),.s .gr],.box 41 [.i .i64,.i .i64],.box 3 [.li .i64 1],.box 4 [.lb true],.box 3 [.li .i64 7],.box 3 [.li .i64 11],.box 4 [.lb true]]⟩:PS).mk' [.i y1,.i y2,.l (.sl 41 .sp) y3,.l .gr y4,.i y5,.i y6,.l (.sl 41 .sp) y7,.l .gr y8,.i y9,.i aa,.l (.sl 41 .sp) ab,.l .gr ac,.i y13,.i af,.l (.sl 41 .sp) ah,.l .gr ai,.i aj,.i ak])),(fun y1 y2 y3 y4 y5 y6 y7 y8 y9 aa ab ac y13 af ah ai aj ak=>K .ret ((⟨[.one (.lb false)]++nOs 93,[.box 25 [.i .i64,.i .i64,.s (.sl 41 .sp),.s .gr],.box 25 [.i .i64,.i .i64,.s (.sl 41 .sp),.s .gr],.box 25 [.i .i64,.i .i64,.s (.sl 41 .sp),.s .gr],.box 25 [.i .i64,.i .i64,.s (.sl 41 .sp),.s .gr],.box 41 [.i .i64,.i .i64],.box 3 [.li .i64 1],.box 4 [.lb true]]⟩:PS).mk' [.i y1,.i y2,.l (.sl 41 .sp) y3,.l .gr y4,.i y5,.i y6,.l (.sl 41 .sp) y7,.l .gr y8,.i y9,.i aa,.l (.sl 41 .sp) ab,.l .gr ac,.i y13,.i af,.l (.sl 41 .sp) ah,.l .gr ai,.i aj,.i ak])))
noncomputable def fZ.l0.g {γ:Type} (YK:HdK γ) (k:Nat) (K:gu→St→Option γ):List Lf→Option γ
  | [.i v1,.i v2,.l (.sl 41 .sp) v3,.l .gr v4,.i v5,.i v6,.l (.sl 41 .sp) v7,.l .gr v8,.i v9,.i v10,.l (.sl 41 .sp) v11,.l .gr v12,.i v13,.i v14,.l (.sl 41 .sp) v15,.l .gr v16,.i v17,.i v18]=>let q:=fZ.l0.c YK K;fZ.l0 q.1 q.2.1 q.2.2.1 q.2.2.2.1 q.2.2.2.2.1 q.2.2.2.2.2.1 q.2.2.2.2.2.2 k v1 v2 v3 v4 v5 v6 v7 v8 v9 v10 v11 v12 v13 v14 v15 v16 v17 v18
  | _=>none
noncomputable def fZ.C {γ:Type}:Ctx γ:=mkC (fun k=>mkE [(12,iV.m k),(13,fE.m k),(15,fF.m k),(16,iF.m k),(19,fu.m k),(26,jH.m k),(28,jZ.m k),(36,iT.m k)] [17,18]) [(10,Tryz.f10),(17,Tryz.f17),(18,Tryz.f18),(43,Tryz.f43),(44,Tryz.f44)] [(10,mkA [] [(1000022,[1,2,3,5])] [(1000022,[0])] []),(17,mkA [] [] [] []),(18,mkA [] [] [] []),(43,mkA [] [] [] []),(44,mkA [] [] [] [])] [⟨1,10,1000022,jy [(fZ.l0.p,fZ.l0.g)]⟩] []
theorem fZ.l0.eq {γ:Type} (YK:HdK γ) (rl:Option Nat) (K:gu→St→Option γ) (k:Nat) (v1:Int) (v2:Int) (v3:List (List P.S41)) (v4:List P.S43) (v5:Int) (v6:Int) (v7:List (List P.S41)) (v8:List P.S43) (v9:Int) (v10:Int) (v11:List (List P.S41)) (v12:List P.S43) (v13:Int) (v14:Int) (v15:List (List P.S41)) (v16:List P.S43) (v17:Int) (v18:Int):fZ.C.lK 1 10 1000022 Tryz.f10 YK rl 5 k (fZ.l0.p.mk' [.i v1,.i v2,.l (.sl 41 .sp) v3,.l .gr v4,.i v5,.i v6,.l (.sl 41 .sp) v7,.l .gr v8,.i v9,.i v10,.l (.sl 41 .sp) v11,.l .gr v12,.i v13,.i v14,.l (.sl 41 .sp) v15,.l .gr v16,.i v17,.i v18]) K=fZ.l0.g YK k K [.i v1,.i v2,.l (.sl 41 .sp) v3,.l .gr v4,.i v5,.i v6,.l (.sl 41 .sp) v7,.l .gr v8,.i v9,.i v10,.l (.sl 41 .sp) v11,.l .gr v12,.i v13,.i v14,.l (.sl 41 .sp) v15,.l .gr v16,.i v17,.i v18]:=by kernel_rfl
theorem fZ.iN {γ:Type}:(fZ.C (γ:=γ)).Ok:=⟨(all_cons (fun k=>by kernel_rfl) (all_cons (fun k=>by kernel_rfl) (all_cons (fun k=>by kernel_rfl) (all_cons (fun k=>by kernel_rfl) (all_cons (fun k=>by kernel_rfl) all_nil))))),(all_cons (by kernel_rfl) (all_cons (by kernel_rfl) (all_cons (by kernel_rfl) (all_cons (by kernel_rfl) (all_cons (by kernel_rfl) all_nil))))),all_nil⟩
theorem fZ.e0 {γ:Type}:jc (fZ.C (γ:=γ)) ⟨1,10,1000022,jy [(fZ.l0.p,fZ.l0.g)]⟩:=fZ.iN.lS Tryz.f10 [] (by kernel_rfl) (by kernel_rfl) (by kernel_rfl) (all_cons jC all_nil) (all_cons (fun YK rl k ls K v hv=>(show fZ.l0.g YK k K ls=some v→_ from fun hv=>by
  unfold fZ.l0.g at hv;split at hv
  · exact (fZ.l0.eq YK rl K k _ _ _ _ _ _ _ _ _ _ _ _ _ _ _ _ _ _).trans hv
  · cases hv) hv) all_nil)
theorem fZ.ok (k:Nat):jK Tryz.prog 10 (fZ.m k).s:=okW fZ.iN 1 Tryz.f10 k (all_cons ⟨Tryz.f17,Tryz.func17,by kernel_rfl⟩ (all_cons ⟨Tryz.f18,Tryz.func18,by kernel_rfl⟩ all_nil)) (fun k=>all_cons (iV.ok k) (all_cons (fE.ok k) (all_cons (fF.ok k) (all_cons (iF.ok k) (all_cons (fu.ok k) (all_cons (jH.ok k) (all_cons (jZ.ok k) (all_cons (iT.ok k) (all_nil))))))))) (all_cons ⟨Tryz.func10,by kernel_rfl⟩ (all_cons ⟨Tryz.func17,by kernel_rfl⟩ (all_cons ⟨Tryz.func18,by kernel_rfl⟩ (all_cons ⟨Tryz.func43,by kernel_rfl⟩ (all_cons ⟨Tryz.func44,by kernel_rfl⟩ all_nil))))) (all_cons fZ.e0 all_nil) (by kernel_rfl) (by kernel_rfl) (fun a=>by kernel_rfl)
noncomputable def fU.l1.p:PS:=⟨nOs 4++[.one (.bp 1 0),nO,nO,.one (.s .sp),.one (.i .i64)]++nOs 4++[.one (.b)]++nOs 45++[.one (.o 3 (.int .i64)),.one (.li .i64 2),.one (.i .i64)]++nOs 89,[.box 25 [.i .i64,.i .i64,.s (.sl 41 .sp),.s .gr],.box 25 [.i .i64,.i .i64,.s (.sl 41 .sp),.s .gr]]⟩
noncomputable def fU.l1.c {γ:Type} (YK:HdK γ) (K:gu→St→Option γ) (c6:Int) (c7:Int) (c8:List (List P.S41)) (c9:List P.S43) (c10:Int) (c11:Int) (c12:List (List P.S41)) (c13:List P.S43):=((K .ret ((⟨nOs 6++[.one (.lb false)]++nOs 144,[.box 25 [.i .i64,.i .i64,.s (.sl 41 .sp),.s .gr],.box 25 [.i .i64,.i .i64,.s (.sl 41 .sp),.s .gr]]⟩:PS).mk' [.i c6,.i c7,.l (.sl 41 .sp) c8,.l .gr c9,.i c10,.i c11,.l (.sl 41 .sp) c12,.l .gr c13])),(K (.exit 0) ((⟨nOs 151,[.box 25 [.i .i64,.i .i64,.s (.sl 41 .sp),.s .gr],.box 25 [.i .i64,.i .i64,.s (.sl 41 .sp),.s .gr]]⟩:PS).mk' [.i c6,.i c7,.l (.sl 41 .sp) c8,.l .gr c9,.i c10,.i c11,.l (.sl 41 .sp) c12,.l .gr c13])))
noncomputable def fU.l1.g {γ:Type} (YK:HdK γ) (k:Nat) (K:gu→St→Option γ):List Lf→Option γ
  | [.l .sp c1,.i c2,.b c3,.l (.int .i64) c4,.i v5,.i c6,.i c7,.l (.sl 41 .sp) c8,.l .gr c9,.i c10,.i c11,.l (.sl 41 .sp) c12,.l .gr c13]=>let q:=fU.l1.c YK K c6 c7 c8 c9 c10 c11 c12 c13;fU.l1 q.1 q.2 c1 c2 c3 c4 c10 c11 c12 c13 k v5
  | _=>none
noncomputable def fU.l0.p:PS:=⟨[nO,nO,.one (.i .i64),.one (.bp 0 0),.one (.bp 1 0)]++nOs 146,[.box 25 [.i .i64,.i .i64,.s (.sl 41 .sp),.s .gr],.box 25 [.i .i64,.i .i64,.s (.sl 41 .sp),.s .gr]]⟩
noncomputable def fU.l0.c {γ:Type} (YK:HdK γ) (K:gu→St→Option γ)  := ((fun y1 y2 y3 y4 y5 y6 y7 y8=>K .ret ((⟨nOs 6++[.one (.lb false)]++nOs 144,[.box 25 [.i .i64,.i .i64,.s (.sl 41 .sp),.s .gr],.box 25 [.i .i64,.i .i64,.s (.sl 41 .sp),.s .gr]]⟩:PS).mk' [.i y1,.i y2,.l (.sl 41 .sp) y3,.l .gr y4,.i y5,.i y6,.l (.sl 41 .sp) y7,.l .gr y8])),(fun y1 y2 y3 y4 y5 y6 y7 y8 y9=>K .ret ((⟨nOs 6++[.one (.b)]++nOs 144,[.box 25 [.i .i64,.i .i64,.s (.sl 41 .sp),.s .gr],.box 25 [.i .i64,.i .i64,.s (.sl 41 .sp),.s .gr]]⟩:PS).mk' [.b y1,.i y2,.i y3,.l (.sl 41 .sp) y4,.l .gr y5,.i y6,.i y7,.l (.sl 41 .sp) y8,.l .gr y9])))
noncomputable def fU.l0.g {γ:Type} (YK:HdK γ) (k:Nat) (K:gu→St→Option γ):List Lf→Option γ
  | [.i v1,.i v2,.i v3,.l (.sl 41 .sp) v4,.l .gr v5,.i v6,.i v7,.l (.sl 41 .sp) v8,.l .gr v9]=>let q:=fU.l0.c YK K;fU.l0 q.1 q.2 k v1 v2 v3 v4 v5 v6 v7 v8 v9
  | _=>none
noncomputable def fU.C {γ:Type}:Ctx γ:=mkC (fun k=>mkE [(9,kC.m k),(10,fZ.m k),(11,iM.m k),(12,iV.m k),(13,fE.m k),(14,iE.m k),(15,fF.m k)] []) [(3,Tryz.f3)] [(3,mkA [] [(0,[4,7,8,13,59,60,61]),(1000010,[2,3,4])] [(0,[6]),(1000010,[6])] [])] [⟨0,3,0,jy [(fU.l1.p,fU.l1.g)]⟩,⟨0,3,1000010,jy [(fU.l0.p,fU.l0.g)]⟩] []
theorem fU.l1.eq {γ:Type} (YK:HdK γ) (rl:Option Nat) (K:gu→St→Option γ) (c1:List P.S41) (c2:Int) (c3:Bool) (c4:List Int) (c6:Int) (c7:Int) (c8:List (List P.S41)) (c9:List P.S43) (c10:Int) (c11:Int) (c12:List (List P.S41)) (c13:List P.S43):∀ k:Nat,(fun (v5:Int)=>fU.C.lK 0 3 0 Tryz.f3 YK rl 2 k (fU.l1.p.mk' [.l .sp c1,.i c2,.b c3,.l (.int .i64) c4,.i v5,.i c6,.i c7,.l (.sl 41 .sp) c8,.l .gr c9,.i c10,.i c11,.l (.sl 41 .sp) c12,.l .gr c13]) K)=(fun (v5:Int)=>fU.l1.g YK k K [.l .sp c1,.i c2,.b c3,.l (.int .i64) c4,.i v5,.i c6,.i c7,.l (.sl 41 .sp) c8,.l .gr c9,.i c10,.i c11,.l (.sl 41 .sp) c12,.l .gr c13]):=iD (fun R k v5=>fU.l1T (fU.l1.c YK K c6 c7 c8 c9 c10 c11 c12 c13).1 (fU.l1.c YK K c6 c7 c8 c9 c10 c11 c12 c13).2 c1 c2 c3 c4 c10 c11 c12 c13 R k v5) (by kernel_rfl) (fun k=>by kernel_rfl) (fun k=>by kernel_rfl)
theorem fU.l0.eq {γ:Type} (YK:HdK γ) (rl:Option Nat) (K:gu→St→Option γ) (k:Nat) (v1:Int) (v2:Int) (v3:Int) (v4:List (List P.S41)) (v5:List P.S43) (v6:Int) (v7:Int) (v8:List (List P.S41)) (v9:List P.S43):fU.C.lK 0 3 1000010 Tryz.f3 YK rl 2 k (fU.l0.p.mk' [.i v1,.i v2,.i v3,.l (.sl 41 .sp) v4,.l .gr v5,.i v6,.i v7,.l (.sl 41 .sp) v8,.l .gr v9]) K=fU.l0.g YK k K [.i v1,.i v2,.i v3,.l (.sl 41 .sp) v4,.l .gr v5,.i v6,.i v7,.l (.sl 41 .sp) v8,.l .gr v9]:=by kernel_rfl
noncomputable def fI.m (k:Nat):Sm:=jM [(.int .u64),(.int .u8)] [.pl .bool] (fun a=>fI.f k a.1 a.2.1)
noncomputable def fI.l1.p:PS:=⟨nOs 6++[.one (.i .i64),.one (.bp 0 0)]++nOs 4++[.one (.bp 7 0)]++nOs 142,[.box 25 [.li .i64 0,.li .i64 0,.lo 28 (.sl 41 .sp),.s .gr],.box 25 [.i .i64,.i .i64,.s (.sl 41 .sp),.s .gr],.box 3 [.i .i64],.box 3 [.i .i64],.box 4 [.lb true],.box 3 [.li .i64 0],.box 4 [.lb false],.box 25 [.i .i64,.i .i64,.s (.sl 41 .sp),.s .gr]]⟩
noncomputable def fI.l1.c {γ:Type} (YK:HdK γ) (K:gu→St→Option γ)  := ((fun y1 y2 y3 y4 y5 y6 y7 y8 y9 aa ab ac=>K .ret ((⟨nOs 4++[.one (.b)]++nOs 150,[.box 25 [.li .i64 0,.li .i64 0,.lo 28 (.sl 41 .sp),.s .gr],.box 25 [.i .i64,.i .i64,.s (.sl 41 .sp),.s .gr],.box 3 [.i .i64],.box 3 [.i .i64],.box 4 [.lb true],.box 3 [.li .i64 0],.box 4 [.lb false],.box 25 [.i .i64,.i .i64,.s (.sl 41 .sp),.s .gr]]⟩:PS).mk' [.b y1,.l .gr y2,.i y3,.i y4,.l (.sl 41 .sp) y5,.l .gr y6,.i y7,.i y8,.i y9,.i aa,.l (.sl 41 .sp) ab,.l .gr ac])),(fun y1 y2 y3 y4 y5 y6 y7 y8 y9 aa ab=>K .ret ((⟨nOs 4++[.one (.lb false)]++nOs 150,[.box 25 [.li .i64 0,.li .i64 0,.lo 28 (.sl 41 .sp),.s .gr],.box 25 [.i .i64,.i .i64,.s (.sl 41 .sp),.s .gr],.box 3 [.i .i64],.box 3 [.i .i64],.box 4 [.lb true],.box 3 [.li .i64 0],.box 4 [.lb false],.box 25 [.i .i64,.i .i64,.s (.sl 41 .sp),.s .gr]]⟩:PS).mk' [.l .gr y1,.i y2,.i y3,.l (.sl 41 .sp) y4,.l .gr y5,.i y6,.i y7,.i y8,.i y9,.l (.sl 41 .sp) aa,.l .gr ab])))
noncomputable def fI.l1.g {γ:Type} (YK:HdK γ) (k:Nat) (K:gu→St→Option γ):List Lf→Option γ
  | [.i v1,.l .gr v2,.i v3,.i v4,.l (.sl 41 .sp) v5,.l .gr v6,.i v7,.i v8,.i v9,.i v10,.l (.sl 41 .sp) v11,.l .gr v12]=>let q:=fI.l1.c YK K;fI.l1 q.1 q.2 k v1 v2 v3 v4 v5 v6 v7 v8 v9 v10 v11 v12
  | _=>none
noncomputable def fI.l0.p:PS:=⟨nOs 5++[.one (.i .i64),.one (.i .i64),.one (.bp 0 0),.one (.bp 1 0)]++nOs 146,[.box 25 [.li .i64 0,.li .i64 0,.lo 28 (.sl 41 .sp),.s .gr],.box 25 [.i .i64,.i .i64,.s (.sl 41 .sp),.s .gr],.box 3 [.i .i64],.box 3 [.i .i64],.box 4 [.lb true],.box 3 [.li .i64 0],.box 4 [.lb false]]⟩
noncomputable def fI.l0.c {γ:Type} (YK:HdK γ) (K:gu→St→Option γ)  := ((fun y1 y2 y3 y4 y5 y6 y7 y8 y9 aa ab=>K .ret ((⟨nOs 4++[.one (.lb false)]++nOs 150,[.box 25 [.li .i64 0,.li .i64 0,.lo 28 (.sl 41 .sp),.s .gr],.box 25 [.i .i64,.i .i64,.s (.sl 41 .sp),.s .gr],.box 3 [.i .i64],.box 3 [.i .i64],.box 4 [.lb true],.box 3 [.li .i64 0],.box 4 [.lb false],.box 25 [.i .i64,.i .i64,.s (.sl 41 .sp),.s .gr]]⟩:PS).mk' [.l .gr y1,.i y2,.i y3,.l (.sl 41 .sp) y4,.l .gr y5,.i y6,.i y7,.i y8,.i y9,.l (.sl 41 .sp) aa,.l .gr ab])),(fun y1 y2 y3 y4 y5 y6 y7 y8 y9 aa ab ac=>K .ret ((⟨nOs 4++[.one (.b)]++nOs 150,[.box 25 [.li .i64 0,.li .i64 0,.lo 28 (.sl 41 .sp),.s .gr],.box 25 [.i .i64,.i .i64,.s (.sl 41 .sp),.s .gr],.box 3 [.i .i64],.box 3 [.i .i64],.box 4 [.lb true],.box 3 [.li .i64 0],.box 4 [.lb false],.box 25 [.i .i64,.i .i64,.s (.sl 41 .sp),.s .gr]]⟩:PS).mk' [.b y1,.l .gr y2,.i y3,.i y4,.l (.sl 41 .sp) y5,.l .gr y6,.i y7,.i y8,.i y9,.i aa,.l (.sl 41 .sp) ab,.l .gr ac])))
noncomputable def fI.l0.g {γ:Type} (YK:HdK γ) (k:Nat) (K:gu→St→Option γ):List Lf→Option γ
  | [.i v1,.i v2,.l .gr v3,.i v4,.i v5,.l (.sl 41 .sp) v6,.l .gr v7,.i v8,.i v9]=>let q:=fI.l0.c YK K;fI.l0 q.1 q.2 k v1 v2 v3 v4 v5 v6 v7 v8 v9
  | _=>none
noncomputable def fI.C {γ:Type}:Ctx γ:=mkC (fun k=>mkE [(10,fZ.m k),(12,iV.m k),(13,fE.m k),(15,fF.m k),(16,iF.m k),(19,fu.m k),(20,jX.m k)] [17,18]) [(4,Tryz.f4),(17,Tryz.f17),(18,Tryz.f18),(43,Tryz.f43),(44,Tryz.f44)] [(4,mkA [] [(1000022,[5,6,7,8]),(1000040,[6,7,12])] [(1000022,[4]),(1000040,[4])] []),(17,mkA [] [] [] []),(18,mkA [] [] [] []),(43,mkA [] [] [] []),(44,mkA [] [] [] [])] [⟨1,4,1000040,jy [(fI.l1.p,fI.l1.g)]⟩,⟨1,4,1000022,jy [(fI.l0.p,fI.l0.g)]⟩] []
theorem fI.l1.eq {γ:Type} (YK:HdK γ) (rl:Option Nat) (K:gu→St→Option γ) (k:Nat) (v1:Int) (v2:List P.S43) (v3:Int) (v4:Int) (v5:List (List P.S41)) (v6:List P.S43) (v7:Int) (v8:Int) (v9:Int) (v10:Int) (v11:List (List P.S41)) (v12:List P.S43):fI.C.lK 1 4 1000040 Tryz.f4 YK rl 8 k (fI.l1.p.mk' [.i v1,.l .gr v2,.i v3,.i v4,.l (.sl 41 .sp) v5,.l .gr v6,.i v7,.i v8,.i v9,.i v10,.l (.sl 41 .sp) v11,.l .gr v12]) K=fI.l1.g YK k K [.i v1,.l .gr v2,.i v3,.i v4,.l (.sl 41 .sp) v5,.l .gr v6,.i v7,.i v8,.i v9,.i v10,.l (.sl 41 .sp) v11,.l .gr v12]:=by kernel_rfl
theorem fI.l0.eq {γ:Type} (YK:HdK γ) (rl:Option Nat) (K:gu→St→Option γ) (k:Nat) (v1:Int) (v2:Int) (v3:List P.S43) (v4:Int) (v5:Int) (v6:List (List P.S41)) (v7:List P.S43) (v8:Int) (v9:Int):fI.C.lK 1 4 1000022 Tryz.f4 YK rl 7 k (fI.l0.p.mk' [.i v1,.i v2,.l .gr v3,.i v4,.i v5,.l (.sl 41 .sp) v6,.l .gr v7,.i v8,.i v9]) K=fI.l0.g YK k K [.i v1,.i v2,.l .gr v3,.i v4,.i v5,.l (.sl 41 .sp) v6,.l .gr v7,.i v8,.i v9]:=by kernel_rfl
theorem fI.iN {γ:Type}:(fI.C (γ:=γ)).Ok:=⟨(all_cons (fun k=>by kernel_rfl) (all_cons (fun k=>by kernel_rfl) (all_cons (fun k=>by kernel_rfl) (all_cons (fun k=>by kernel_rfl) (all_cons (fun k=>by kernel_rfl) all_nil))))),(all_cons (by kernel_rfl) (all_cons (by kernel_rfl) (all_cons (by kernel_rfl) (all_cons (by kernel_rfl) (all_cons (by kernel_rfl) all_nil))))),all_nil⟩
theorem fI.e0 {γ:Type}:jc (fI.C (γ:=γ)) ⟨1,4,1000040,jy [(fI.l1.p,fI.l1.g)]⟩:=fI.iN.lS Tryz.f4 [] (by kernel_rfl) (by kernel_rfl) (by kernel_rfl) (all_cons jC (all_cons jC all_nil)) (all_cons (fun YK rl k ls K v hv=>(show fI.l1.g YK k K ls=some v→_ from fun hv=>by
  unfold fI.l1.g at hv;split at hv
  · exact (fI.l1.eq YK rl K k _ _ _ _ _ _ _ _ _ _ _ _).trans hv
  · cases hv) hv) all_nil)
theorem fI.e1 {γ:Type}:jc (fI.C (γ:=γ)) ⟨1,4,1000022,jy [(fI.l0.p,fI.l0.g)]⟩:=fI.iN.lS Tryz.f4 [1000040] (by kernel_rfl) (by kernel_rfl) (by kernel_rfl) (all_cons (fun _=>fI.e0) (all_cons jC all_nil)) (all_cons (fun YK rl k ls K v hv=>(show fI.l0.g YK k K ls=some v→_ from fun hv=>by
  unfold fI.l0.g at hv;split at hv
  · exact (fI.l0.eq YK rl K k _ _ _ _ _ _ _ _ _).trans hv
  · cases hv) hv) all_nil)
theorem fI.ok (k:Nat):jK Tryz.prog 4 (fI.m k).s:=okW fI.iN 1 Tryz.f4 k (all_cons ⟨Tryz.f17,Tryz.func17,by kernel_rfl⟩ (all_cons ⟨Tryz.f18,Tryz.func18,by kernel_rfl⟩ all_nil)) (fun k=>all_cons (fZ.ok k) (all_cons (iV.ok k) (all_cons (fE.ok k) (all_cons (fF.ok k) (all_cons (iF.ok k) (all_cons (fu.ok k) (all_cons (jX.ok k) (all_nil)))))))) (all_cons ⟨Tryz.func4,by kernel_rfl⟩ (all_cons ⟨Tryz.func17,by kernel_rfl⟩ (all_cons ⟨Tryz.func18,by kernel_rfl⟩ (all_cons ⟨Tryz.func43,by kernel_rfl⟩ (all_cons ⟨Tryz.func44,by kernel_rfl⟩ all_nil))))) (all_cons fI.e0 (all_cons fI.e1 all_nil)) (by kernel_rfl) (by kernel_rfl) (fun a=>by kernel_rfl)
noncomputable def gJ.l0.p:PS:=⟨[nO,.one (.bp 0 0)]++nOs 18++[.one (.s (.sl 41 .sp)),.one (.i .i64),.one (.i .i64)]++nOs 55,[.box 25 [.i .i64,.i .i64,.s (.sl 41 .sp),.s .gr]]⟩
noncomputable def gJ.l0.c {γ:Type} (YK:HdK γ) (K:gu→St→Option γ) (c4:Int) (c5:Int) (c6:List (List P.S41)) (c7:List P.S43):=((K .ret ((⟨[nO,.one (.bp 0 0),.one (.lb false)]++nOs 75,[.box 25 [.i .i64,.i .i64,.s (.sl 41 .sp),.s .gr]]⟩:PS).mk' [.i c4,.i c5,.l (.sl 41 .sp) c6,.l .gr c7])),(K (.exit 0) ((⟨[nO,.one (.bp 0 0)]++nOs 76,[.box 25 [.i .i64,.i .i64,.s (.sl 41 .sp),.s .gr]]⟩:PS).mk' [.i c4,.i c5,.l (.sl 41 .sp) c6,.l .gr c7])))
noncomputable def gJ.l0.g {γ:Type} (YK:HdK γ) (k:Nat) (K:gu→St→Option γ):List Lf→Option γ
  | [.l (.sl 41 .sp) c1,.i c2,.i v3,.i c4,.i c5,.l (.sl 41 .sp) c6,.l .gr c7]=>let q:=gJ.l0.c YK K c4 c5 c6 c7;gJ.l0 q.1 q.2 c1 c2 k v3
  | _=>none
noncomputable def gJ.l1.p:PS:=⟨nOs 44++[.one (.s .gr),.one (.i .i64),.one (.i .i64)]++nOs 31,[.box 25 [.i .i64,.i .i64,.s (.sl 41 .sp),.s .gr]]⟩
noncomputable def gJ.l1.c {γ:Type} (YK:HdK γ) (K:gu→St→Option γ) (c4:Int) (c5:Int) (c6:List (List P.S41)) (c7:List P.S43):=((K .ret ((⟨[nO,nO,.one (.lb false)]++nOs 75,[.box 25 [.i .i64,.i .i64,.s (.sl 41 .sp),.s .gr]]⟩:PS).mk' [.i c4,.i c5,.l (.sl 41 .sp) c6,.l .gr c7])),(K (.exit 2) ((⟨nOs 78,[.box 25 [.i .i64,.i .i64,.s (.sl 41 .sp),.s .gr]]⟩:PS).mk' [.i c4,.i c5,.l (.sl 41 .sp) c6,.l .gr c7])))
noncomputable def gJ.l1.g {γ:Type} (YK:HdK γ) (k:Nat) (K:gu→St→Option γ):List Lf→Option γ
  | [.l .gr c1,.i c2,.i v3,.i c4,.i c5,.l (.sl 41 .sp) c6,.l .gr c7]=>let q:=gJ.l1.c YK K c4 c5 c6 c7;gJ.l1 q.1 q.2 c1 c2 k v3
  | _=>none
noncomputable def gJ.C {γ:Type}:Ctx γ:=mkC (fun k=>mkE [(9,kC.m k),(52,iA.m k)] []) [(21,Tryz.f21)] [(21,mkA [] [(0,[1,20,21,22]),(2,[44,45,46])] [(0,[1,2]),(2,[2])] [])] [⟨0,21,0,jy [(gJ.l0.p,gJ.l0.g)]⟩,⟨0,21,2,jy [(gJ.l1.p,gJ.l1.g)]⟩] []
theorem gJ.l0.eq {γ:Type} (YK:HdK γ) (rl:Option Nat) (K:gu→St→Option γ) (c1:List (List P.S41)) (c2:Int) (c4:Int) (c5:Int) (c6:List (List P.S41)) (c7:List P.S43):∀ k:Nat,(fun (v3:Int)=>gJ.C.lK 0 21 0 Tryz.f21 YK rl 1 k (gJ.l0.p.mk' [.l (.sl 41 .sp) c1,.i c2,.i v3,.i c4,.i c5,.l (.sl 41 .sp) c6,.l .gr c7]) K)=(fun (v3:Int)=>gJ.l0.g YK k K [.l (.sl 41 .sp) c1,.i c2,.i v3,.i c4,.i c5,.l (.sl 41 .sp) c6,.l .gr c7]):=iD (fun R k v3=>gJ.l0T (gJ.l0.c YK K c4 c5 c6 c7).1 (gJ.l0.c YK K c4 c5 c6 c7).2 c1 c2 R k v3) (by kernel_rfl) (fun k=>by kernel_rfl) (fun k=>by kernel_rfl)
theorem gJ.l1.eq {γ:Type} (YK:HdK γ) (rl:Option Nat) (K:gu→St→Option γ) (c1:List P.S43) (c2:Int) (c4:Int) (c5:Int) (c6:List (List P.S41)) (c7:List P.S43):∀ k:Nat,(fun (v3:Int)=>gJ.C.lK 0 21 2 Tryz.f21 YK rl 1 k (gJ.l1.p.mk' [.l .gr c1,.i c2,.i v3,.i c4,.i c5,.l (.sl 41 .sp) c6,.l .gr c7]) K)=(fun (v3:Int)=>gJ.l1.g YK k K [.l .gr c1,.i c2,.i v3,.i c4,.i c5,.l (.sl 41 .sp) c6,.l .gr c7]):=iD (fun R k v3=>gJ.l1T (gJ.l1.c YK K c4 c5 c6 c7).1 (gJ.l1.c YK K c4 c5 c6 c7).2 c1 c2 R k v3) (by kernel_rfl) (fun k=>by kernel_rfl) (fun k=>by kernel_rfl)
noncomputable def kP.m (k:Nat):Sm:=jM [(.sl 41 .sp)] [.own 41 .sp] (fun a=>kP.f k a.1)
noncomputable def gq.l0.p:PS:=⟨[nO,.one (.bp 0 0),.one (.bp 1 0),.one (.bp 2 0)]++nOs 10++[.one (.s (.sl 41 .sp)),.one (.i .i64),.one (.i .i64)]++nOs 31,[.box 25 [.i .i64,.i .i64,.s (.sl 41 .sp),.s .gr],.box 25 [.li .i64 0,.li .i64 0,.lo 28 (.sl 41 .sp),.lo 43 .gr],.box 25 [.i .i64,.i .i64,.o 28 (.sl 41 .sp),.lo 43 .gr]]⟩
noncomputable def gq.l0.c {γ:Type} (YK:HdK γ) (K:gu→St→Option γ) (c4:Int) (c5:Int) (c6:List (List P.S41)) (c7:List P.S43) (c8:Int) (c9:Int):=(fun y1=>K (.exit 0) ((⟨[nO,.one (.bp 0 0),.one (.bp 1 0),.one (.bp 2 0)]++nOs 44,[.box 25 [.i .i64,.i .i64,.s (.sl 41 .sp),.s .gr],.box 25 [.li .i64 0,.li .i64 0,.lo 28 (.sl 41 .sp),.lo 43 .gr],.box 25 [.i .i64,.i .i64,.o 28 (.sl 41 .sp),.lo 43 .gr]]⟩:PS).mk' [.i c4,.i c5,.l (.sl 41 .sp) c6,.l .gr c7,.i c8,.i c9,.l (.sl 41 .sp) y1]))
noncomputable def gq.l0.g {γ:Type} (YK:HdK γ) (k:Nat) (K:gu→St→Option γ):List Lf→Option γ
  | [.l (.sl 41 .sp) c1,.i c2,.i v3,.i c4,.i c5,.l (.sl 41 .sp) c6,.l .gr c7,.i c8,.i c9,.l (.sl 41 .sp) v10]=>gq.l0 (gq.l0.c YK K c4 c5 c6 c7 c8 c9) c1 c2 k v3 v10
  | _=>none
noncomputable def gq.l1.p:PS:=⟨[nO,nO,.one (.bp 1 0),.one (.bp 2 0)]++nOs 25++[.one (.s .gr),.one (.i .i64),.one (.i .i64)]++nOs 16,[.box 25 [.i .i64,.i .i64,.s (.sl 41 .sp),.s .gr],.box 25 [.li .i64 0,.li .i64 0,.lo 28 (.sl 41 .sp),.lo 43 .gr],.box 25 [.i .i64,.i .i64,.o 28 (.sl 41 .sp),.o 43 .gr]]⟩
noncomputable def gq.l1.c {γ:Type} (YK:HdK γ) (K:gu→St→Option γ) (c4:Int) (c5:Int) (c6:List (List P.S41)) (c7:List P.S43) (c8:Int) (c9:Int) (c10:List (List P.S41)):=(fun y1=>K (.exit 2) ((⟨[nO,nO,.one (.bp 1 0),.one (.bp 2 0)]++nOs 44,[.box 25 [.i .i64,.i .i64,.s (.sl 41 .sp),.s .gr],.box 25 [.li .i64 0,.li .i64 0,.lo 28 (.sl 41 .sp),.lo 43 .gr],.box 25 [.i .i64,.i .i64,.o 28 (.sl 41 .sp),.o 43 .gr]]⟩:PS).mk' [.i c4,.i c5,.l (.sl 41 .sp) c6,.l .gr c7,.i c8,.i c9,.l (.sl 41 .sp) c10,.l .gr y1]))
noncomputable def gq.l1.g {γ:Type} (YK:HdK γ) (k:Nat) (K:gu→St→Option γ):List Lf→Option γ
  | [.l .gr c1,.i c2,.i v3,.i c4,.i c5,.l (.sl 41 .sp) c6,.l .gr c7,.i c8,.i c9,.l (.sl 41 .sp) c10,.l .gr v11]=>gq.l1 (gq.l1.c YK K c4 c5 c6 c7 c8 c9 c10) c1 c2 k v3 v11
  | _=>none
noncomputable def gq.C {γ:Type}:Ctx γ:=mkC (fun k=>mkE [(53,kP.m k)] []) [(22,Tryz.f22)] [(22,mkA [21,36,47] [(0,[1,2,3,14,15,16]),(2,[2,3,29,30,31])] [(0,[1,2,3]),(2,[2,3])] [])] [⟨0,22,0,jy [(gq.l0.p,gq.l0.g)]⟩,⟨0,22,2,jy [(gq.l1.p,gq.l1.g)]⟩] []
theorem gq.l0.eq {γ:Type} (YK:HdK γ) (rl:Option Nat) (K:gu→St→Option γ) (c1:List (List P.S41)) (c2:Int) (c4:Int) (c5:Int) (c6:List (List P.S41)) (c7:List P.S43) (c8:Int) (c9:Int):∀ k:Nat,(fun (v3:Int) (v10:List (List P.S41))=>gq.C.lK 0 22 0 Tryz.f22 YK rl 3 k (gq.l0.p.mk' [.l (.sl 41 .sp) c1,.i c2,.i v3,.i c4,.i c5,.l (.sl 41 .sp) c6,.l .gr c7,.i c8,.i c9,.l (.sl 41 .sp) v10]) K)=(fun (v3:Int) (v10:List (List P.S41))=>gq.l0.g YK k K [.l (.sl 41 .sp) c1,.i c2,.i v3,.i c4,.i c5,.l (.sl 41 .sp) c6,.l .gr c7,.i c8,.i c9,.l (.sl 41 .sp) v10]):=iD (fun R k v3 v10=>gq.l0T (gq.l0.c YK K c4 c5 c6 c7 c8 c9) c1 c2 R k v3 v10) (by kernel_rfl) (fun k=>by kernel_rfl) (fun k=>by kernel_rfl)
theorem gq.l1.eq {γ:Type} (YK:HdK γ) (rl:Option Nat) (K:gu→St→Option γ) (c1:List P.S43) (c2:Int) (c4:Int) (c5:Int) (c6:List (List P.S41)) (c7:List P.S43) (c8:Int) (c9:Int) (c10:List (List P.S41)):∀ k:Nat,(fun (v3:Int) (v11:List P.S43)=>gq.C.lK 0 22 2 Tryz.f22 YK rl 3 k (gq.l1.p.mk' [.l .gr c1,.i c2,.i v3,.i c4,.i c5,.l (.sl 41 .sp) c6,.l .gr c7,.i c8,.i c9,.l (.sl 41 .sp) c10,.l .gr v11]) K)=(fun (v3:Int) (v11:List P.S43)=>gq.l1.g YK k K [.l .gr c1,.i c2,.i v3,.i c4,.i c5,.l (.sl 41 .sp) c6,.l .gr c7,.i c8,.i c9,.l (.sl 41 .sp) c10,.l .gr v11]):=iD (fun R k v3 v11=>gq.l1T (gq.l1.c YK K c4 c5 c6 c7 c8 c9 c10) c1 c2 R k v3 v11) (by kernel_rfl) (fun k=>by kernel_rfl) (fun k=>by kernel_rfl)
end Go.Proofs.YtongeknogcboiaaGreat.R
namespace Go.Proofs.YtongeknogcboiaaGreat.M
noncomputable section
set_option linter.unusedVariables false
set_option linter.unusedSimpArgs false
open Go.RowKit Go.Proofs.YtongeknogcboiaaGreatW.fK Go.Proofs.YtongeknogcboiaaGreatW.gN
def gh0 (W:World):Gh:={ ow:=fun _=>none,pr:=fun b _=>b<W.heap.size,bx:=fun _=>0,lr:=fun _=>default,lv:=fun _=>False,av:=fun _=>undef }
def adw (W:World):(ts:List Ty)→nE ts→List Value→Prop
  | [],_,[]=>True
  | t :: ts,a,v :: vs=>(∃ ws,t.R (lQ (gh0 W) W) a.1 ws∧VW t ws v)∧adw W ts a.2 vs
  | _,_,_=>False
theorem aeG {W:World}:∀ {ts:List Ty} {a:nE ts} {vs:List Value},adw W ts a vs→(ku ts a).length=vs.length∧∀ (i:Nat) (x:AV) (v:Value),(ku ts a)[i]? = some x→vs[i]? = some v→∀ fr' i',AVR 0 (gh0 W) W fr' i' x v
  | [],_,[],_=>⟨rfl,fun i x v hx=>by simp [ku] at hx⟩
  | [],_,_ :: _,h=>h.elim
  | _ :: _,_,[],h=>h.elim
  | t :: ts,a,v :: vs,⟨⟨ws,h1,h2⟩,h3⟩=>by
    obtain ⟨q1,q2⟩:=aeG h3;refine ⟨by simp [ku,q1],fun i x u hx hu fr' i' => ?_⟩;cases i with
    | zero =>
      simp [ku] at hx hu
      subst hx;subst hu;exact adg _ t a.1 h1 h2
    | succ i=>exact q2 i x u (by simpa [ku] using hx) (by simpa using hu) fr' i'
theorem Ty.of_cells:(t:Ty)→(x:t.T)→t.of (t.cells x)=some x
  | .int k,x=>by simp [Ty.of,Ty.cells]
  | .bool,x=>rfl
  | .str,x=>rfl
  | .sp,x=>rfl
  | .gr,x=>by simp [Ty.of,Ty.cells,Cell.asL]
  | .fm,x=>by simp [Ty.of,Ty.cells,Cell.asL]
  | .sl _ t,x=>by simp [Ty.of,Ty.cells,Cell.asL]
theorem aeH (t:Ty) (x:t.T):rdP t (mkP t x)=some x:=by
  have h:=Ty.of_cells t x;cases t <;> simpa [mkP,rdP,Ty.cells,Ty.ag] using h
theorem vk:(ts:List Ty)→(a:nE ts)→nN ts (ku ts a)=some a
  | [],_=>rfl
  | t :: ts,a=>by
    simp only [ku,nN,aeH,vk ts a.2];rfl
theorem aau {P:Program} {f:FuncId} {ts:List Ty} {F:nE ts→Option Bool} (h:jK P f (jM ts [.pl .bool] F).s) {W:World} {a:nE ts} {vs:List Value} (hR:adw W ts a vs) (hF:F a=some true) :
    Calls P f vs.toArray W fun e W'=>e=.returned (.bool true)∧Below W.heap.size W W':=by
  obtain ⟨fn,_,_,_,h⟩:=h;obtain ⟨q1,q2⟩:=aeG hR;have hs:(jM ts [.pl .bool] F).s (ku ts a)=some (zf [.pl .bool] true):=by
    show ((nN ts (ku ts a)).map F).bind _=_;rw [vk];show (F a).map _=_;rw [hF];rfl
  refine (h 0 (gh0 W) W 0 0 _ _ _ ⟨fun b o hb=>hb,fun b ℓ hl=>by cases hl⟩ (by simpa using q1) (fun i x v hx hv=>q2 i x v hx (by simpa using hv)) hs).mono ?_;rintro e W' ⟨v,rfl,g',_,_,hE,hv⟩;refine ⟨?_,⟨hE.os,hE.tape,hE.output,hE.size,fun b hb=>(hE.far b hb (fun ℓ hl=>by cases hl)).1⟩⟩;have hv:v=.bool true∧_:=hv;rw [hv.1]
end
end Go.Proofs.YtongeknogcboiaaGreat.M
namespace Go.Proofs.YtongeknogcboiaaGreat.P
set_option linter.unusedVariables false
set_option linter.unusedSimpArgs false
open Go.RowKit
def SL (lo hi:Int):List Sp→Prop
  | []=>True
  | s :: r=>lo≤s.f0∧s.f0≤s.f1∧s.f1≤hi∧SL (s.f1+2) hi r
def kI (l:List Sp) (x:Int):Bool:=l.any fun s=>decide (s.f0≤x)&&decide (x≤s.f1)
theorem sV (x:Int):kI [] x=false:=rfl
theorem lJ (s:Sp) (r:List Sp) (x:Int):kI (s :: r) x=((decide (s.f0≤x)&&decide (x≤s.f1)) || kI r x):=rfl
theorem mW {l:List Sp} {x:Int}:kI l x=true↔∃ s∈l,s.f0≤x∧x≤s.f1:=by simp [kI]
theorem SL.mono {lo lo' hi:Int} (h:lo'≤lo):∀ {l:List Sp},SL lo hi l→SL lo' hi l
  | [],_=>trivial
  | _ :: _,hs=>⟨by have:=hs.1;omega,hs.2⟩
theorem SL.low {lo hi:Int} {l:List Sp} (hs:SL lo hi l) {x:Int} (hx:x<lo):kI l x=false:=by
  induction l generalizing lo with
  | nil=>rfl
  | cons s r ih =>
    obtain ⟨h1,h2,h3,h4⟩:=hs;rw [lJ,ih h4 (by omega)];have:¬ s.f0≤x:=by omega
    simp [this]
theorem SL.high {lo hi:Int} {l:List Sp} (hs:SL lo hi l) {x:Int} (hx:hi<x):kI l x=false:=by
  induction l generalizing lo with
  | nil=>rfl
  | cons s r ih =>
    obtain ⟨h1,h2,h3,h4⟩:=hs;rw [lJ,ih h4];have:¬ x≤s.f1:=by omega
    simp [this]
theorem SL.ticks {lo hi:Int} {l:List Sp} (hs:SL lo hi l) {s:Sp} (h:s∈l):lo≤s.f0∧s.f0≤s.f1∧s.f1≤hi:=by
  induction l generalizing lo with
  | nil=>simp at h
  | cons t r ih =>
    obtain ⟨h1,h2,h3,h4⟩:=hs;rcases List.mem_cons.1 h with rfl | h
    · exact ⟨h1,h2,h3⟩
    · obtain ⟨a,b,c⟩:=ih h4 h
      exact ⟨by omega,b,c⟩
def Inv (hi:Int) (a:List Sp) (i:Bool) (p:Int):Prop :=
  match a,i with
  | [],i=>i=false
  | s :: r,true=>s.f0≤p∧p≤s.f1∧s.f1≤hi∧SL (s.f1+2) hi r
  | s :: r,false=>SL (p+1) hi (s :: r)
theorem mX {n:Int} (h1 : -9223372036854775808≤n) (h2:n≤9223372036854775807):wrap64 n=n:=by unfold wrap64;omega
theorem Inv.nxt {hi p:Int} {a:List Sp} {i:Bool} (h:Inv hi a i p) (hp : -4611686018427387904≤p) (hh:hi≤4611686018427387904) (hn:a≠[]):p<oI a i∧oI a i≤hi+1:=by
  match a,i,hn with
  | s :: r,true,_ =>
    obtain ⟨h1,h2,h3,h4⟩:=h;have hw:wrap64 (s.f1+1)=s.f1+1:=mX (by omega) (by omega);simp only [oI,hw];omega
  | s :: r,false,_ =>
    obtain ⟨h1,h2,h3,h4⟩:=h;simp only [oI];omega
theorem Inv.step {hi p t:Int} {a:List Sp} {i:Bool} (h:Inv hi a i p) (hp : -4611686018427387904≤p) (hh:hi≤4611686018427387904) (hpt:p<t) (ht:a≠[]→t≤oI a i) :
    Inv hi (jI a i t).1 (jI a i t).2 t∧(∀ x,t≤x→kI (jI a i t).1 x=kI a x)∧(∀ x,p≤x→x<t→kI a x=i):=by
  match a,i with
  | [],i =>
    have:i=false:=h;subst this;exact ⟨rfl,fun _ _=>rfl,fun _ _ _=>rfl⟩
  | s :: r,true =>
    obtain ⟨h1,h2,h3,h4⟩:=h;have hw:wrap64 (s.f1+1)=s.f1+1:=mX (by omega) (by omega);have ht':=ht (by simp);simp only [oI,hw] at ht';have hin:∀ x,p≤x→x<t→kI (s :: r) x=true:=fun x a b=>by
      have c1:s.f0≤x:=by omega
      have c2:x≤s.f1:=by omega
      simp [lJ,c1,c2]
    simp only [jI,hw];by_cases e:s.f1+1=t
    · rw [if_pos e]
      refine ⟨?_,fun x hx => ?_,hin⟩
      · cases r with
        | nil=>rfl
        | cons u r=>exact SL.mono (by omega) h4
      · have:¬ x≤s.f1:=by omega
        simp [lJ,this]
    · rw [if_neg e]
      exact ⟨⟨by omega,by omega,h3,h4⟩,fun _ _=>rfl,hin⟩
  | s :: r,false =>
    obtain ⟨h1,h2,h3,h4⟩:=h;have ht':=ht (by simp);simp only [oI] at ht';have hout:∀ x,p≤x→x<t→kI (s :: r) x=false:=fun x a b=>by
      have c1:¬ s.f0≤x:=by omega
      rw [lJ,h4.low (by omega)];simp [c1]
    simp only [jI];by_cases e:s.f0=t
    · rw [if_pos e]
      exact ⟨⟨by omega,by omega,h3,h4⟩,fun _ _=>rfl,hout⟩
    · rw [if_neg e]
      exact ⟨⟨by omega,h2,h3,h4⟩,fun _ _=>rfl,hout⟩
theorem abW (yes:Bool→Bool→Bool) (xs:List Bd):∀ (i:Bool) (f:Int) (o:List Sp),(xs.foldl (lC yes) ⟨i,f,o⟩).out=o++(xs.foldl (lC yes) ⟨i,f,[]⟩).out:=by
  induction xs with
  | nil=>intro i f o;simp
  | cons x xs ih =>
    intro i f o;simp only [List.foldl_cons,lC];split
    · exact ih _ _ _
    · split
      · rw [ih _ _ (o++_),ih _ _ ([]++_)];simp
      · exact ih _ _ _
theorem agm (yes:Bool→Bool→Bool) (hy:yes false false=false) (hi aj:Int) (hlo : -4611686018427387904≤aj) (hh:hi≤4611686018427387904) (n:Nat):∀ (a:List Sp) (ia:Bool) (b:List Sp) (ib:Bool) (p from_:Int),
    msr a ia+msr b ib≤n→Inv hi a ia p→Inv hi b ib p→aj≤p+1 → -4611686018427387904≤p→(yes ia ib=true→aj≤from_∧from_≤p) →
    SL (if yes ia ib then from_ else p+1) hi ((pG a ia b ib).foldl (lC yes) ⟨yes ia ib,from_,[]⟩).out ∧
    ∀ x,kI ((pG a ia b ib).foldl (lC yes) ⟨yes ia ib,from_,[]⟩).out x=if x<p then (yes ia ib&&decide (from_≤x)) else yes (kI a x) (kI b x):=by
  induction n with
  | zero =>
    intro a ia b ib p from_ hm ha hb hp hp2 hf;have e:a=[]∧b=[]:=by
      by_cases e:a=[]∧b=[]
      · exact e
      · have:=qb a ia b ib e;omega
    obtain ⟨rfl,rfl⟩:=e;have h1:ia=false:=ha;have h2:ib=false:=hb;subst h1 h2;rw [om,hy];refine ⟨trivial,fun x => ?_⟩;simp [sV,hy]
  | succ n ih =>
    intro a ia b ib p from_ hm ha hb hp hp2 hf;by_cases e:a=[]∧b=[]
    · obtain ⟨rfl,rfl⟩:=e
      have h1:ia=false:=ha;have h2:ib=false:=hb;subst h1 h2;rw [om,hy];refine ⟨trivial,fun x => ?_⟩;simp [sV,hy]
    · have hlt:=qb a ia b ib e
      rw [ru a ia b ib e];have ht:p<atL a ia b ib∧atL a ia b ib≤hi+1∧(a≠[]→atL a ia b ib≤oI a ia)∧(b≠[]→atL a ia b ib≤oI b ib):=by
        unfold atL;by_cases h1:a=[]
        · have h2:b≠[]:=fun h=>e ⟨h1,h⟩
          rw [if_pos h1];have:=hb.nxt hp2 hh h2;exact ⟨this.1,this.2,fun h=>absurd h1 h,fun _=>Int.le_refl _⟩
        · rw [if_neg h1]
          have q1:=ha.nxt hp2 hh h1;by_cases h2:b=[]
          · rw [if_pos h2]
            exact ⟨q1.1,q1.2,fun _=>Int.le_refl _,fun h=>absurd h2 h⟩
          · rw [if_neg h2]
            have q2:=hb.nxt hp2 hh h2;exact ⟨by omega,by omega,fun _=>by omega,fun _=>by omega⟩
      obtain ⟨t,hte⟩:∃ t,atL a ia b ib=t:=⟨_,rfl⟩;rw [hte] at ht hlt ⊢;obtain ⟨ht1,ht2,ht3,al⟩:=ht;obtain ⟨ah,ha2,am⟩:=ha.step hp2 hh ht1 ht3;obtain ⟨ai,hb2,hb3⟩:=hb.step hp2 hh ht1 al;obtain ⟨a1,aa,hpa⟩:∃ a1 aa,jI a ia t=(a1,aa):=⟨_,_,rfl⟩;obtain ⟨b1,ab,hpb⟩:∃ b1 ab,jI b ib t=(b1,ab):=⟨_,_,rfl⟩;rw [hpa] at hlt ah ha2 ⊢;rw [hpb] at hlt ai hb2 ⊢;dsimp only at hlt ah ha2 ai hb2 ⊢;have hw:wrap64 (t - 1)=t - 1:=mX (by omega) (by omega);have hval:∀ x,p≤x→x<t→yes (kI a x) (kI b x)=yes ia ib:=fun x h1 h2=>by rw [am x h1 h2,hb3 x h1 h2]
      have af:∀ x,t≤x→yes (kI a1 x) (kI b1 x)=yes (kI a x) (kI b x):=fun x h1=>by rw [ha2 x h1,hb2 x h1]
      simp only [List.foldl_cons];cases hin:yes ia ib with
      | false =>
        cases ac:yes aa ab with
        | true =>
          have hk:lC yes ⟨false,from_,[]⟩ ⟨t,aa,ab⟩=⟨yes aa ab,t,[]⟩:=by simp [lC,ac]
          rw [hk];obtain ⟨s1,s2⟩:=ih a1 aa b1 ab t t (by omega) ah ai (by omega) (by omega) (fun _=>⟨by omega,Int.le_refl _⟩);rw [ac] at s1 s2 ⊢;refine ⟨by simpa using SL.mono (by simp;omega) s1,fun x => ?_⟩;rw [s2 x];by_cases c1:x<p
          · have c2:x<t:=by omega
            have c3:¬ t≤x:=by omega
            simp [c1,c2,c3]
          · by_cases c2:x<t
            · have c3:¬ t≤x:=by omega
              rw [if_neg c1,hval x (by omega) c2,hin];simp [c2,c3]
            · rw [if_neg c1,if_neg c2,af x (by omega)]
        | false =>
          have hk:lC yes ⟨false,from_,[]⟩ ⟨t,aa,ab⟩=⟨yes aa ab,from_,[]⟩:=by simp [lC,ac]
          rw [hk];obtain ⟨s1,s2⟩:=ih a1 aa b1 ab t from_ (by omega) ah ai (by omega) (by omega) (fun h=>by rw [ac] at h;cases h);rw [ac] at s1 s2 ⊢;refine ⟨by simpa using SL.mono (by simp;omega) s1,fun x => ?_⟩;rw [s2 x];by_cases c1:x<p
          · have c2:x<t:=by omega
            simp [c1,c2]
          · by_cases c2:x<t
            · rw [if_neg c1,hval x (by omega) c2,hin]
              simp [c2]
            · rw [if_neg c1,if_neg c2,af x (by omega)]
      | true =>
        obtain ⟨hf1,hf2⟩:=hf hin;cases ac:yes aa ab with
        | true =>
          have hk:lC yes ⟨true,from_,[]⟩ ⟨t,aa,ab⟩=⟨yes aa ab,from_,[]⟩:=by simp [lC,ac]
          rw [hk];obtain ⟨s1,s2⟩:=ih a1 aa b1 ab t from_ (by omega) ah ai (by omega) (by omega) (fun _=>⟨hf1,by omega⟩);rw [ac] at s1 s2 ⊢;refine ⟨by simpa using s1,fun x => ?_⟩;rw [s2 x];by_cases c1:x<p
          · have c2:x<t:=by omega
            simp [c1,c2]
          · by_cases c2:x<t
            · have c3:from_≤x:=by omega
              rw [if_neg c1,hval x (by omega) c2,hin];simp [c2,c3]
            · rw [if_neg c1,if_neg c2,af x (by omega)]
        | false =>
          have hk:lC yes ⟨true,from_,[]⟩ ⟨t,aa,ab⟩=⟨yes aa ab,from_,[⟨from_,t - 1⟩]⟩:=by simp [lC,ac,hw]
          rw [hk,abW];obtain ⟨s1,s2⟩:=ih a1 aa b1 ab t from_ (by omega) ah ai (by omega) (by omega) (fun h=>by rw [ac] at h;cases h);rw [ac] at s1 s2 ⊢;refine ⟨⟨by simp,by show from_≤t - 1;omega,by show t - 1≤hi;omega,?_⟩,fun x => ?_⟩
          · have:(t - 1:Int)+2=t+1:=by omega
            show SL (t - 1+2) hi _;rw [this];simpa using s1
          · have ak:kI ([⟨from_,t - 1⟩]++(List.foldl (lC yes) ⟨false,from_,[]⟩ (pG a1 aa b1 ab)).out) x=((decide (from_≤x)&&decide (x≤t - 1)) || kI (List.foldl (lC yes) ⟨false,from_,[]⟩ (pG a1 aa b1 ab)).out x):=rfl
            rw [ak,s2 x];by_cases c1:x<p
            · have c2:x<t:=by omega
              have c3:x≤t - 1:=by omega
              simp [c1,c2,c3]
            · by_cases c2:x<t
              · have c3:from_≤x:=by omega
                have c4:x≤t - 1:=by omega
                rw [if_neg c1,hval x (by omega) c2,hin];simp [c2,c3,c4]
              · have c4:¬ x≤t - 1:=by omega
                rw [if_neg c1,if_neg c2,af x (by omega)];simp [c4]
theorem zh (yes:Bool→Bool→Bool) (hy:yes false false=false) {lo hi:Int} (hlo : -4611686018427387903≤lo) (hh:hi≤4611686018427387904) {a b:List Sp} (ha:SL lo hi a) (hb:SL lo hi b) :
    SL lo hi (nQ yes a b)∧∀ x,kI (nQ yes a b) x=yes (kI a x) (kI b x):=by
  have inv:∀ {a:List Sp},SL lo hi a→Inv hi a false (lo - 1):=by
    intro a h;cases a with
    | nil=>rfl
    | cons s r=>exact SL.mono (by omega) h
  obtain ⟨h1,h2⟩:=agm yes hy hi lo (by omega) hh _ a false b false (lo - 1) 0 (Nat.le_refl _) (inv ha) (inv hb) (by omega) (by omega) (fun h=>by rw [hy] at h;cases h);rw [hy] at h1 h2;refine ⟨by simpa [nQ,acM] using SL.mono (by simp) h1,fun x => ?_⟩;have:=h2 x;unfold nQ acM;rw [this];by_cases c:x<lo - 1
  · rw [if_pos c,ha.low (by omega),hb.low (by omega),hy];simp
  · rw [if_neg c]
def ins:List Int→Int→List Int
  | [],x=>[x]
  | y :: r,x=>if y=x then y :: r else if y>x then x :: y :: r else y :: ins r x
end Go.Proofs.YtongeknogcboiaaGreat.P
namespace Go.Proofs.YtongeknogcboiaaGreat.P
set_option linter.unusedVariables false
set_option linter.unusedSimpArgs false
open Go.RowKit Go.ChangeShapes Go.WideShapes Go.Deep Go.Proofs.YtongeknogcboiaaGreatW.fK
def fits (n:Int):Prop:=(Lit.int .i64 n).wf=true
def acs (s:Sp):Prop:=fits s.f0∧fits s.f1
end Go.Proofs.YtongeknogcboiaaGreat.P
namespace Go.Proofs.YtongeknogcboiaaGreat.P
set_option linter.unusedVariables false
set_option linter.unusedSimpArgs false
open Go.RowKit Go.ChangeShapes Go.WideShapes Go.Deep Go.Proofs.YtongeknogcboiaaGreatW.fK Go.Proofs.YtongeknogcboiaaGreatW.iC
section
variable {H:Type} {enc:TypeId × Value→H} {w:World} {base:Nat} {held:Bool} {fuel:Nat} {cs:List Value} {x:DataW H × List MemPlace}
def aeI (g:S43):Prop:=fits g.f0∧(∀ z∈g.f1,acs z)∧g.f1.length≤9223372036854775807
structure ahl (p c:Int) (core:List (List Sp)) (odd:List S43):Prop where
  fp:fits p
  fc:fits c
  ahm:∀ l∈core,(∀ z∈l,acs z)∧l.length≤9223372036854775807
  ahq:∀ g∈odd,aeI g
  lc:core.length≤9223372036854775807
  lo:odd.length≤9223372036854775807
end
end Go.Proofs.YtongeknogcboiaaGreat.P
