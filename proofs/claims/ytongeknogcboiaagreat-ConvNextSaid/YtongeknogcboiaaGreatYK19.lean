/- Lemmas for laws of chapter 7: what the functions that they reach compute. No condition of its own. -/
import Derived.Test.YtongeknogcboiaaGreatYK9
import Derived.Test.YtongeknogcboiaaGreatYK12
import Derived.Test.YtongeknogcboiaaGreatYK13
import Derived.Test.YtongeknogcboiaaGreatYK14
import Derived.Test.YtongeknogcboiaaGreatYK16
import Derived.Test.YtongeknogcboiaaGreatYK17
import Derived.Test.YtongeknogcboiaaGreatYK15
import Derived.Test.YtongeknogcboiaaGreatYK18
namespace Go.Proofs.YtongeknogcboiaaGreat.R
open M Go.RowKit Go.Proofs.YtongeknogcboiaaGreatW.gy Go.Proofs.YtongeknogcboiaaGreatW.iE Go.Proofs.YtongeknogcboiaaGreatW.jh
set_option linter.unusedVariables false
noncomputable def jo.m (k:Nat):Sm:=kE [.fm,(.int .i64)] [.pl .sp,.pl .bool] (fun a=>jo.f k a.1.f0 a.1.f1 a.1.f2 a.1.f3 a.2.1)
noncomputable def jo.E (k:Nat):kr:=⟨tL.tb,fun f=>lk f [(40,jc.m k),(52,iR.m k)],fun _=>false⟩
noncomputable def jo.C {γ:Type}:Ctx γ:=⟨jo.E,[(26,Tryz.f26)],fun f=>(lk f [(26,⟨fun d=>jB d [10],fun c=>lk c [],fun c=>lk c [],fun _=>none,fun _=>([],[])⟩)]).getD ⟨fun _=>false,fun _=>none,fun _=>none,fun _=>none,fun _=>([],[])⟩,[],[]⟩
theorem jo.jk {γ:Type}:(jo.C (γ:=γ)).Ok:=⟨(all_cons (fun k=>by kernel_rfl) all_nil),(all_cons (by kernel_rfl) all_nil),all_nil⟩
theorem jo.eq (k:Nat) (aa:Int) (ab:Int) (ac:List (List P.S41)) (af:List P.S43) (a1:Int):jo.C.bK 0 26 Tryz.f26 k (iQ [.fm,(.int .i64)] (⟨aa,ab,ac,af⟩,a1,())) (K0 [.pl .sp,.pl .bool])=jo.f k aa ab ac af a1:=by kernel_rfl
theorem jo.ok (k:Nat):kM Tryz.prog 26 (jo.m k).s:=iG (C:=jo.C) jo.jk (n:=0) (fn:=Tryz.f26) mixed (fun _=>jL) nw0 (fun k=>iM (all_cons (jc.ok k) (all_cons (iR.ok k) (all_nil)))) (all_cons ⟨Tryz.func26,by kernel_rfl⟩ all_nil) all_nil (by kernel_rfl) (by kernel_rfl) (fun ⟨⟨aa,ab,ac,af⟩,a1,_⟩ x h=>⟨k,(jo.eq k aa ab ac af a1).trans h⟩)
noncomputable def jW.m (k:Nat):Sm:=kE [.fm] [.pl (.int .i64),.pl (.int .i64),.pl .bool] (fun a=>jW.f k a.1.f0 a.1.f1 a.1.f2 a.1.f3)
noncomputable def jW.E (k:Nat):kr:=⟨tL.tb,fun f=>lk f [(50,fG.m k),(98,fH.m k)],fun _=>false⟩
noncomputable def jW.C {γ:Type}:Ctx γ:=⟨jW.E,[(59,Tryz.f59)],fun f=>(lk f [(59,⟨fun d=>jB d [],fun c=>lk c [],fun c=>lk c [],fun _=>none,fun _=>([],[])⟩)]).getD ⟨fun _=>false,fun _=>none,fun _=>none,fun _=>none,fun _=>([],[])⟩,[],[]⟩
theorem jW.jk {γ:Type}:(jW.C (γ:=γ)).Ok:=⟨(all_cons (fun k=>by kernel_rfl) all_nil),(all_cons (by kernel_rfl) all_nil),all_nil⟩
theorem jW.eq (k:Nat) (aa:Int) (ab:Int) (ac:List (List P.S41)) (af:List P.S43):jW.C.bK 0 59 Tryz.f59 k (iQ [.fm] (⟨aa,ab,ac,af⟩,())) (K0 [.pl (.int .i64),.pl (.int .i64),.pl .bool])=jW.f k aa ab ac af:=by kernel_rfl
theorem jW.ok (k:Nat):kM Tryz.prog 59 (jW.m k).s:=iG (C:=jW.C) jW.jk (n:=0) (fn:=Tryz.f59) mixed (fun _=>jL) nw0 (fun k=>iM (all_cons (fG.ok k) (all_cons (fH.ok k) (all_nil)))) (all_cons ⟨Tryz.func59,by kernel_rfl⟩ all_nil) all_nil (by kernel_rfl) (by kernel_rfl) (fun ⟨⟨aa,ab,ac,af⟩,_⟩ x h=>⟨k,(jW.eq k aa ab ac af).trans h⟩)
noncomputable def jN.m (k:Nat):Sm:=kE [.fm,(.int .i64)] [.pl (.int .i64),.pl .bool] (fun a=>jN.f k a.1.f0 a.1.f1 a.1.f2 a.1.f3 a.2.1)
noncomputable def jN.E (k:Nat):kr:=⟨tL.tb,fun f=>lk f [(59,jW.m k),(60,iP.m k)],fun _=>false⟩
noncomputable def jN.C {γ:Type}:Ctx γ:=⟨jN.E,[(28,Tryz.f28)],fun f=>(lk f [(28,⟨fun d=>jB d [],fun c=>lk c [],fun c=>lk c [],fun _=>none,fun _=>([],[])⟩)]).getD ⟨fun _=>false,fun _=>none,fun _=>none,fun _=>none,fun _=>([],[])⟩,[],[]⟩
theorem jN.jk {γ:Type}:(jN.C (γ:=γ)).Ok:=⟨(all_cons (fun k=>by kernel_rfl) all_nil),(all_cons (by kernel_rfl) all_nil),all_nil⟩
theorem jN.eq (k:Nat) (aa:Int) (ab:Int) (ac:List (List P.S41)) (af:List P.S43) (a1:Int):jN.C.bK 0 28 Tryz.f28 k (iQ [.fm,(.int .i64)] (⟨aa,ab,ac,af⟩,a1,())) (K0 [.pl (.int .i64),.pl .bool])=jN.f k aa ab ac af a1:=by kernel_rfl
theorem jN.ok (k:Nat):kM Tryz.prog 28 (jN.m k).s:=iG (C:=jN.C) jN.jk (n:=0) (fn:=Tryz.f28) mixed (fun _=>jL) nw0 (fun k=>iM (all_cons (jW.ok k) (all_cons (iP.ok k) (all_nil)))) (all_cons ⟨Tryz.func28,by kernel_rfl⟩ all_nil) all_nil (by kernel_rfl) (by kernel_rfl) (fun ⟨⟨aa,ab,ac,af⟩,a1,_⟩ x h=>⟨k,(jN.eq k aa ab ac af a1).trans h⟩)
noncomputable def iZ.m (k:Nat):Sm:=kE [] [.pl .fm] (fun a=>iZ.f k)
noncomputable def iZ.E (k:Nat):kr:=⟨tL.tb,fun f=>lk f [],fun _=>false⟩
noncomputable def iZ.C {γ:Type}:Ctx γ:=⟨iZ.E,[(36,Tryz.f36)],fun f=>(lk f [(36,⟨fun d=>jB d [],fun c=>lk c [],fun c=>lk c [],fun _=>none,fun _=>([],[])⟩)]).getD ⟨fun _=>false,fun _=>none,fun _=>none,fun _=>none,fun _=>([],[])⟩,[],[]⟩
theorem iZ.jk {γ:Type}:(iZ.C (γ:=γ)).Ok:=⟨(all_cons (fun k=>by kernel_rfl) all_nil),(all_cons (by kernel_rfl) all_nil),all_nil⟩
theorem iZ.eq (k:Nat)  : iZ.C.bK 0 36 Tryz.f36 k (iQ [] (())) (K0 [.pl .fm])=iZ.f k:=by kernel_rfl
theorem iZ.ok (k:Nat):kM Tryz.prog 36 (iZ.m k).s:=iG (C:=iZ.C) iZ.jk (n:=0) (fn:=Tryz.f36) mixed (fun _=>jL) nw0 (fun k=>iM (all_nil)) (all_cons ⟨Tryz.func36,by kernel_rfl⟩ all_nil) all_nil (by kernel_rfl) (by kernel_rfl) (fun _ x h=>⟨k,(iZ.eq k ).trans h⟩)
noncomputable def fO.m (k:Nat):Sm:=kE [] [.pl .bool] (fun a=>fO.f k)
noncomputable def fO.E (k:Nat):kr:=⟨tL.tb,fun f=>lk f [(12,jG.m k),(13,fF.m k),(15,fE.m k),(16,je.m k),(19,fu.m k),(26,jo.m k),(28,jN.m k),(36,iZ.m k)],fun f=>jB f [17,18]⟩
noncomputable def fO.l0.p:PS:=⟨[nO,.one (.bp 0 0),.one (.bp 1 0),.one (.bp 2 0),nO,.one (.bp 3 0)]++nOs 88,[.box 25 [.i .i64,.i .i64,.s (.sl 41 .sp),.s .gr],.box 25 [.i .i64,.i .i64,.s (.sl 41 .sp),.s .gr],.box 25 [.i .i64,.i .i64,.s (.sl 41 .sp),.s .gr],.box 25 [.i .i64,.i .i64,.s (.sl 41 .sp),.s .gr],.box 41 [.i .i64,.i .i64]]⟩
noncomputable def fO.l0.q0:PS:=⟨[.one (.b)]++nOs 93,[.box 25 [.i .i64,.i .i64,.s (.sl 41 .sp),.s .gr],.box 25 [.i .i64,.i .i64,.s (.sl 41 .sp),.s .gr],.box 25 [.i .i64,.i .i64,.s (.sl 41 .sp),.s .gr],.box 25 [.i .i64,.i .i64,.s (.sl 41 .sp),.s .gr],.box 41 [.i .i64,.i .i64],.box 3 [.li .i64 1],.box 4 [.lb true],.box 3 [.li .i64 7],.box 3 [.li .i64 11],.box 4 [.lb true],.box 3 [.li .i64 0],.box 4 [.lb false],.box 3 [.li .i64 0],.box 4 [.lb false],.box 3 [.li .i64 0],.box 3 [.li .i64 1],.box 4 [.lb true],.box 3 [.li .i64 0],.box 4 [.lb true]]⟩
noncomputable def fO.l0.q1:PS:=⟨[.one (.lb false)]++nOs 93,[.box 25 [.i .i64,.i .i64,.s (.sl 41 .sp),.s .gr],.box 25 [.i .i64,.i .i64,.s (.sl 41 .sp),.s .gr],.box 25 [.i .i64,.i .i64,.s (.sl 41 .sp),.s .gr],.box 25 [.i .i64,.i .i64,.s (.sl 41 .sp),.s .gr],.box 41 [.i .i64,.i .i64],.box 3 [.li .i64 1],.box 4 [.lb true],.box 3 [.li .i64 7],.box 3 [.li .i64 11],.box 4 [.lb true],.box 3 [.li .i64 0],.box 4 [.lb false],.box 3 [.li .i64 0],.box 4 [.lb false],.box 3 [.li .i64 0],.box 3 [.li .i64 1],.box 4 [.lb true],.box 3 [.li .i64 0],.box 4 [.lb true]]⟩
noncomputable def fO.l0.q2:PS:=⟨[.one (.lb false)]++nOs 93,[.box 25 [.i .i64,.i .i64,.s (.sl 41 .sp),.s .gr],.box 25 [.i .i64,.i .i64,.s (.sl 41 .sp),.s .gr],.box 25 [.i .i64,.i .i64,.s (.sl 41 .sp),.s .gr],.box 25 [.i .i64,.i .i64,.s (.sl 41 .sp),.s .gr],.box 41 [.i .i64,.i .i64],.box 3 [.li .i64 1],.box 4 [.lb true],.box 3 [.li .i64 7],.box 3 [.li .i64 11],.box 4 [.lb true],.box 3 [.li .i64 0],.box 4 [.lb false],.box 3 [.li .i64 0],.box 4 [.lb false],.box 3 [.li .i64 0],.box 3 [.li .i64 1],.box 4 [.lb true]]⟩
noncomputable def fO.l0.q3:PS:=⟨[.one (.lb false)]++nOs 93,[.box 25 [.i .i64,.i .i64,.s (.sl 41 .sp),.s .gr],.box 25 [.i .i64,.i .i64,.s (.sl 41 .sp),.s .gr],.box 25 [.i .i64,.i .i64,.s (.sl 41 .sp),.s .gr],.box 25 [.i .i64,.i .i64,.s (.sl 41 .sp),.s .gr],.box 41 [.i .i64,.i .i64],.box 3 [.li .i64 1],.box 4 [.lb true],.box 3 [.li .i64 7],.box 3 [.li .i64 11],.box 4 [.lb true],.box 3 [.li .i64 0],.box 4 [.lb false],.box 3 [.li .i64 0],.box 4 [.lb false]]⟩
noncomputable def fO.l0.q4:PS:=⟨[.one (.lb false)]++nOs 93,[.box 25 [.i .i64,.i .i64,.s (.sl 41 .sp),.s .gr],.box 25 [.i .i64,.i .i64,.s (.sl 41 .sp),.s .gr],.box 25 [.i .i64,.i .i64,.s (.sl 41 .sp),.s .gr],.box 25 [.i .i64,.i .i64,.s (.sl 41 .sp),.s .gr],.box 41 [.i .i64,.i .i64],.box 3 [.li .i64 1],.box 4 [.lb true],.box 3 [.li .i64 7],.box 3 [.li .i64 11],.box 4 [.lb true],.box 3 [.li .i64 0],.box 4 [.lb false]]⟩
noncomputable def fO.l0.q5:PS:=⟨[.one (.lb false)]++nOs 93,[.box 25 [.i .i64,.i .i64,.s (.sl 41 .sp),.s .gr],.box 25 [.i .i64,.i .i64,.s (.sl 41 .sp),.s .gr],.box 25 [.i .i64,.i .i64,.s (.sl 41 .sp),.s .gr],.box 25 [.i .i64,.i .i64,.s (.sl 41 .sp),.s .gr],.box 41 [.i .i64,.i .i64],.box 3 [.li .i64 1],.box 4 [.lb true],.box 3 [.li .i64 7],.box 3 [.li .i64 11],.box 4 [.lb true]]⟩
noncomputable def fO.l0.q6:PS:=⟨[.one (.lb false)]++nOs 93,[.box 25 [.i .i64,.i .i64,.s (.sl 41 .sp),.s .gr],.box 25 [.i .i64,.i .i64,.s (.sl 41 .sp),.s .gr],.box 25 [.i .i64,.i .i64,.s (.sl 41 .sp),.s .gr],.box 25 [.i .i64,.i .i64,.s (.sl 41 .sp),.s .gr],.box 41 [.i .i64,.i .i64],.box 3 [.li .i64 1],.box 4 [.lb true]]⟩
noncomputable def fO.l0.g {γ:Type} (YK:HdK γ) (k:Nat) (K:gY→St→Option γ):List Lf→Option γ
  | [.i v1,.i v2,.l (.sl 41 .sp) v3,.l .gr v4,.i v5,.i v6,.l (.sl 41 .sp) v7,.l .gr v8,.i v9,.i v10,.l (.sl 41 .sp) v11,.l .gr v12,.i v13,.i v14,.l (.sl 41 .sp) v15,.l .gr v16,.i v17,.i v18]=>fO.l0 (fun y1 y2 y3 y4 y5 y6 y7 y8 y9 aa ab ac y13 af ah ai aj ak al=>K .ret (fO.l0.q0.mk' [.b y1,.i y2,.i y3,.l (.sl 41 .sp) y4,.l .gr y5,.i y6,.i y7,.l (.sl 41 .sp) y8,.l .gr y9,.i aa,.i ab,.l (.sl 41 .sp) ac,.l .gr y13,.i af,.i ah,.l (.sl 41 .sp) ai,.l .gr aj,.i ak,.i al])) (fun y1 y2 y3 y4 y5 y6 y7 y8 y9 aa ab ac y13 af ah ai aj ak=>K .ret (fO.l0.q1.mk' [.i y1,.i y2,.l (.sl 41 .sp) y3,.l .gr y4,.i y5,.i y6,.l (.sl 41 .sp) y7,.l .gr y8,.i y9,.i aa,.l (.sl 41 .sp) ab,.l .gr ac,.i y13,.i af,.l (.sl 41 .sp) ah,.l .gr ai,.i aj,.i ak])) (fun y1 y2 y3 y4 y5 y6 y7 y8 y9 aa ab ac y13 af ah ai aj ak=>K .ret (fO.l0.q2.mk' [.i y1,.i y2,.l (.sl 41 .sp) y3,.l .gr y4,.i y5,.i y6,.l (.sl 41 .sp) y7,.l .gr y8,.i y9,.i aa,.l (.sl 41 .sp) ab,.l .gr ac,.i y13,.i af,.l (.sl 41 .sp) ah,.l .gr ai,.i aj,.i ak])) (fun y1 y2 y3 y4 y5 y6 y7 y8 y9 aa ab ac y13 af ah ai aj ak=>K .ret (fO.l0.q3.mk' [.i y1,.i y2,.l (.sl 41 .sp) y3,.l .gr y4,.i y5,.i y6,.l (.sl 41 .sp) y7,.l .gr y8,.i y9,.i aa,.l (.sl 41 .sp) ab,.l .gr ac,.i y13,.i af,.l (.sl 41 .sp) ah,.l .gr ai,.i aj,.i ak])) (fun y1 y2 y3 y4 y5 y6 y7 y8 y9 aa ab ac y13 af ah ai aj ak=>K .ret (fO.l0.q4.mk' [.i y1,.i y2,.l (.sl 41 .sp) y3,.l .gr y4,.i y5,.i y6,.l (.sl 41 .sp) y7,.l .gr y8,.i y9,.i aa,.l (.sl 41 .sp) ab,.l .gr ac,.i y13,.i af,.l (.sl 41 .sp) ah,.l .gr ai,.i aj,.i ak])) (fun y1 y2 y3 y4 y5 y6 y7 y8 y9 aa ab ac y13 af ah ai aj ak=>K .ret (fO.l0.q5.mk' [.i y1,.i y2,.l (.sl 41 .sp) y3,.l .gr y4,.i y5,.i y6,.l (.sl 41 .sp) y7,.l .gr y8,.i y9,.i aa,.l (.sl 41 .sp) ab,.l .gr ac,.i y13,.i af,.l (.sl 41 .sp) ah,.l .gr ai,.i aj,.i ak])) (fun y1 y2 y3 y4 y5 y6 y7 y8 y9 aa ab ac y13 af ah ai aj ak=>K .ret (fO.l0.q6.mk' [.i y1,.i y2,.l (.sl 41 .sp) y3,.l .gr y4,.i y5,.i y6,.l (.sl 41 .sp) y7,.l .gr y8,.i y9,.i aa,.l (.sl 41 .sp) ab,.l .gr ac,.i y13,.i af,.l (.sl 41 .sp) ah,.l .gr ai,.i aj,.i ak]))  k v1 v2 v3 v4 v5 v6 v7 v8 v9 v10 v11 v12 v13 v14 v15 v16 v17 v18
  | _=>none
noncomputable def fO.C {γ:Type}:Ctx γ:=⟨fO.E,[(10,Tryz.f10),(17,Tryz.f17),(18,Tryz.f18),(43,Tryz.f43),(44,Tryz.f44)],fun f=>(lk f [(10,⟨fun d=>jB d [],fun c=>lk c [(1000022,[1,2,3,5])],fun c=>lk c [(1000022,[0])],fun _=>none,fun _=>([],[])⟩),(17,⟨fun d=>jB d [],fun c=>lk c [],fun c=>lk c [],fun _=>none,fun _=>([],[])⟩),(18,⟨fun d=>jB d [],fun c=>lk c [],fun c=>lk c [],fun _=>none,fun _=>([],[])⟩),(43,⟨fun d=>jB d [],fun c=>lk c [],fun c=>lk c [],fun _=>none,fun _=>([],[])⟩),(44,⟨fun d=>jB d [],fun c=>lk c [],fun c=>lk c [],fun _=>none,fun _=>([],[])⟩)]).getD ⟨fun _=>false,fun _=>none,fun _=>none,fun _=>none,fun _=>([],[])⟩,[⟨1,10,1000022,j6 [(fO.l0.p,fO.l0.g)]⟩],[]⟩
theorem fO.l0.eq {γ:Type} (YK:HdK γ) (rl:Option Nat) (K:gY→St→Option γ) (k:Nat) (v1:Int) (v2:Int) (v3:List (List P.S41)) (v4:List P.S43) (v5:Int) (v6:Int) (v7:List (List P.S41)) (v8:List P.S43) (v9:Int) (v10:Int) (v11:List (List P.S41)) (v12:List P.S43) (v13:Int) (v14:Int) (v15:List (List P.S41)) (v16:List P.S43) (v17:Int) (v18:Int):fO.C.lK 1 10 1000022 Tryz.f10 YK rl 5 k (fO.l0.p.mk' [.i v1,.i v2,.l (.sl 41 .sp) v3,.l .gr v4,.i v5,.i v6,.l (.sl 41 .sp) v7,.l .gr v8,.i v9,.i v10,.l (.sl 41 .sp) v11,.l .gr v12,.i v13,.i v14,.l (.sl 41 .sp) v15,.l .gr v16,.i v17,.i v18]) K=fO.l0 (fun y1 y2 y3 y4 y5 y6 y7 y8 y9 aa ab ac y13 af ah ai aj ak al=>K .ret (fO.l0.q0.mk' [.b y1,.i y2,.i y3,.l (.sl 41 .sp) y4,.l .gr y5,.i y6,.i y7,.l (.sl 41 .sp) y8,.l .gr y9,.i aa,.i ab,.l (.sl 41 .sp) ac,.l .gr y13,.i af,.i ah,.l (.sl 41 .sp) ai,.l .gr aj,.i ak,.i al])) (fun y1 y2 y3 y4 y5 y6 y7 y8 y9 aa ab ac y13 af ah ai aj ak=>K .ret (fO.l0.q1.mk' [.i y1,.i y2,.l (.sl 41 .sp) y3,.l .gr y4,.i y5,.i y6,.l (.sl 41 .sp) y7,.l .gr y8,.i y9,.i aa,.l (.sl 41 .sp) ab,.l .gr ac,.i y13,.i af,.l (.sl 41 .sp) ah,.l .gr ai,.i aj,.i ak])) (fun y1 y2 y3 y4 y5 y6 y7 y8 y9 aa ab ac y13 af ah ai aj ak=>K .ret (fO.l0.q2.mk' [.i y1,.i y2,.l (.sl 41 .sp) y3,.l .gr y4,.i y5,.i y6,.l (.sl 41 .sp) y7,.l .gr y8,.i y9,.i aa,.l (.sl 41 .sp) ab,.l .gr ac,.i y13,.i af,.l (.sl 41 .sp) ah,.l .gr ai,.i aj,.i ak])) (fun y1 y2 y3 y4 y5 y6 y7 y8 y9 aa ab ac y13 af ah ai aj ak=>K .ret (fO.l0.q3.mk' [.i y1,.i y2,.l (.sl 41 .sp) y3,.l .gr y4,.i y5,.i y6,.l (.sl 41 .sp) y7,.l .gr y8,.i y9,.i aa,.l (.sl 41 .sp) ab,.l .gr ac,.i y13,.i af,.l (.sl 41 .sp) ah,.l .gr ai,.i aj,.i ak])) (fun y1 y2 y3 y4 y5 y6 y7 y8 y9 aa ab ac y13 af ah ai aj ak=>K .ret (fO.l0.q4.mk' [.i y1,.i y2,.l (.sl 41 .sp) y3,.l .gr y4,.i y5,.i y6,.l (.sl 41 .sp) y7,.l .gr y8,.i y9,.i aa,.l (.sl 41 .sp) ab,.l .gr ac,.i y13,.i af,.l (.sl 41 .sp) ah,.l .gr ai,.i aj,.i ak])) (fun y1 y2 y3 y4 y5 y6 y7 y8 y9 aa ab ac y13 af ah ai aj ak=>K .ret (fO.l0.q5.mk' [.i y1,.i y2,.l (.sl 41 .sp) y3,.l .gr y4,.i y5,.i y6,.l (.sl 41 .sp) y7,.l .gr y8,.i y9,.i aa,.l (.sl 41 .sp) ab,.l .gr ac,.i y13,.i af,.l (.sl 41 .sp) ah,.l .gr ai,.i aj,.i ak])) (fun y1 y2 y3 y4 y5 y6 y7 y8 y9 aa ab ac y13 af ah ai aj ak=>K .ret (fO.l0.q6.mk' [.i y1,.i y2,.l (.sl 41 .sp) y3,.l .gr y4,.i y5,.i y6,.l (.sl 41 .sp) y7,.l .gr y8,.i y9,.i aa,.l (.sl 41 .sp) ab,.l .gr ac,.i y13,.i af,.l (.sl 41 .sp) ah,.l .gr ai,.i aj,.i ak])) k v1 v2 v3 v4 v5 v6 v7 v8 v9 v10 v11 v12 v13 v14 v15 v16 v17 v18:=by kernel_rfl
theorem fO.jk {γ:Type}:(fO.C (γ:=γ)).Ok:=⟨(all_cons (fun k=>by kernel_rfl) (all_cons (fun k=>by kernel_rfl) (all_cons (fun k=>by kernel_rfl) (all_cons (fun k=>by kernel_rfl) (all_cons (fun k=>by kernel_rfl) all_nil))))),(all_cons (by kernel_rfl) (all_cons (by kernel_rfl) (all_cons (by kernel_rfl) (all_cons (by kernel_rfl) (all_cons (by kernel_rfl) all_nil))))),all_nil⟩
theorem fO.e0 {γ:Type}:ku (fO.C (γ:=γ)) ⟨1,10,1000022,j6 [(fO.l0.p,fO.l0.g)]⟩:=fO.jk.lpE [] (show lk 10 (fO.C (γ:=γ)).fl=some Tryz.f10 by kernel_rfl) (by kernel_rfl) (by kernel_rfl) (all_cons (fun h=>(Bool.false_ne_true (show false=true from h)).elim) all_nil) (all_cons (fun YK rl k ls K v hv=>(show fO.l0.g YK k K ls=some v→_ from fun hv=>by
  unfold fO.l0.g at hv;split at hv
  · exact (fO.l0.eq YK rl K _ _ _ _ _ _ _ _ _ _ _ _ _ _ _ _ _ _ _).trans hv
  · cases hv) hv) all_nil)
theorem fO.eq (k:Nat)  : fO.C.bK 1 10 Tryz.f10 k (iQ [] (())) (K0 [.pl .bool])=fO.f k:=by kernel_rfl
theorem fO.ok (k:Nat):kM Tryz.prog 10 (fO.m k).s:=iG (C:=fO.C) fO.jk (n:=1) (fn:=Tryz.f10) mixed (fun _=>jL) (aeu (all_cons ⟨Tryz.f17,Tryz.func17,by kernel_rfl⟩ (all_cons ⟨Tryz.f18,Tryz.func18,by kernel_rfl⟩ all_nil))) (fun k=>iM (all_cons (jG.ok k) (all_cons (fF.ok k) (all_cons (fE.ok k) (all_cons (je.ok k) (all_cons (fu.ok k) (all_cons (jo.ok k) (all_cons (jN.ok k) (all_cons (iZ.ok k) (all_nil)))))))))) (all_cons ⟨Tryz.func10,by kernel_rfl⟩ (all_cons ⟨Tryz.func17,by kernel_rfl⟩ (all_cons ⟨Tryz.func18,by kernel_rfl⟩ (all_cons ⟨Tryz.func43,by kernel_rfl⟩ (all_cons ⟨Tryz.func44,by kernel_rfl⟩ all_nil))))) (all_cons fO.e0 all_nil) (by kernel_rfl) (by kernel_rfl) (fun _ x h=>⟨k,(fO.eq k ).trans h⟩)
noncomputable def fU.E (k:Nat):kr:=⟨tL.tb,fun f=>lk f [(9,iO.m k),(10,fO.m k),(11,iW.m k),(12,jG.m k),(13,fF.m k),(14,jf.m k),(15,fE.m k)],fun _=>false⟩
noncomputable def fU.l1.p:PS:=⟨nOs 4++[.one (.bp 1 0),nO,nO,.one (.s .sp),.one (.i .i64)]++nOs 4++[.one (.b)]++nOs 45++[.one (.o 3 (.int .i64)),.one (.li .i64 2),.one (.i .i64)]++nOs 89,[.box 25 [.i .i64,.i .i64,.s (.sl 41 .sp),.s .gr],.box 25 [.i .i64,.i .i64,.s (.sl 41 .sp),.s .gr]]⟩
noncomputable def fU.l1.q0:PS:=⟨nOs 6++[.one (.lb false)]++nOs 144,[.box 25 [.i .i64,.i .i64,.s (.sl 41 .sp),.s .gr],.box 25 [.i .i64,.i .i64,.s (.sl 41 .sp),.s .gr]]⟩
noncomputable def fU.l1.q1:PS:=⟨nOs 151,[.box 25 [.i .i64,.i .i64,.s (.sl 41 .sp),.s .gr],.box 25 [.i .i64,.i .i64,.s (.sl 41 .sp),.s .gr]]⟩
noncomputable def fU.l1.g {γ:Type} (YK:HdK γ) (k:Nat) (K:gY→St→Option γ):List Lf→Option γ
  | [.l .sp c1,.i c2,.b c3,.l (.int .i64) c4,.i v5,.i c6,.i c7,.l (.sl 41 .sp) c8,.l .gr c9,.i c10,.i c11,.l (.sl 41 .sp) c12,.l .gr c13]=>fU.l1 (K .ret (fU.l1.q0.mk' [.i c6,.i c7,.l (.sl 41 .sp) c8,.l .gr c9,.i c10,.i c11,.l (.sl 41 .sp) c12,.l .gr c13])) (K (.exit 0) (fU.l1.q1.mk' [.i c6,.i c7,.l (.sl 41 .sp) c8,.l .gr c9,.i c10,.i c11,.l (.sl 41 .sp) c12,.l .gr c13])) c1 c2 c3 c4 c6 c7 c8 c9 c10 c11 c12 c13 k v5
  | _=>none
noncomputable def fU.l0.p:PS:=⟨[nO,nO,.one (.i .i64),.one (.bp 0 0),.one (.bp 1 0)]++nOs 146,[.box 25 [.i .i64,.i .i64,.s (.sl 41 .sp),.s .gr],.box 25 [.i .i64,.i .i64,.s (.sl 41 .sp),.s .gr]]⟩
noncomputable def fU.l0.q0:PS:=⟨nOs 6++[.one (.lb false)]++nOs 144,[.box 25 [.i .i64,.i .i64,.s (.sl 41 .sp),.s .gr],.box 25 [.i .i64,.i .i64,.s (.sl 41 .sp),.s .gr]]⟩
noncomputable def fU.l0.q1:PS:=⟨nOs 6++[.one (.b)]++nOs 144,[.box 25 [.i .i64,.i .i64,.s (.sl 41 .sp),.s .gr],.box 25 [.i .i64,.i .i64,.s (.sl 41 .sp),.s .gr]]⟩
noncomputable def fU.l0.g {γ:Type} (YK:HdK γ) (k:Nat) (K:gY→St→Option γ):List Lf→Option γ
  | [.i v1,.i v2,.i v3,.l (.sl 41 .sp) v4,.l .gr v5,.i v6,.i v7,.l (.sl 41 .sp) v8,.l .gr v9]=>fU.l0 (fun y1 y2 y3 y4 y5 y6 y7 y8=>K .ret (fU.l0.q0.mk' [.i y1,.i y2,.l (.sl 41 .sp) y3,.l .gr y4,.i y5,.i y6,.l (.sl 41 .sp) y7,.l .gr y8])) (fun y1 y2 y3 y4 y5 y6 y7 y8 y9=>K .ret (fU.l0.q1.mk' [.b y1,.i y2,.i y3,.l (.sl 41 .sp) y4,.l .gr y5,.i y6,.i y7,.l (.sl 41 .sp) y8,.l .gr y9]))  k v1 v2 v3 v4 v5 v6 v7 v8 v9
  | _=>none
noncomputable def fU.C {γ:Type}:Ctx γ:=⟨fU.E,[(3,Tryz.f3)],fun f=>(lk f [(3,⟨fun d=>jB d [],fun c=>lk c [(0,[4,7,8,13,59,60,61]),(1000010,[2,3,4])],fun c=>lk c [(0,[6]),(1000010,[6])],fun _=>none,fun _=>([],[])⟩)]).getD ⟨fun _=>false,fun _=>none,fun _=>none,fun _=>none,fun _=>([],[])⟩,[⟨0,3,0,j6 [(fU.l1.p,fU.l1.g)]⟩,⟨0,3,1000010,j6 [(fU.l0.p,fU.l0.g)]⟩],[]⟩
theorem fU.l1.eq {γ:Type} (YK:HdK γ) (rl:Option Nat) (K:gY→St→Option γ) (c1:List P.S41) (c2:Int) (c3:Bool) (c4:List Int) (c6:Int) (c7:Int) (c8:List (List P.S41)) (c9:List P.S43) (c10:Int) (c11:Int) (c12:List (List P.S41)) (c13:List P.S43):∀ (k:Nat) (v5:Int),fU.C.lK 0 3 0 Tryz.f3 YK rl 2 k (fU.l1.p.mk' [.l .sp c1,.i c2,.b c3,.l (.int .i64) c4,.i v5,.i c6,.i c7,.l (.sl 41 .sp) c8,.l .gr c9,.i c10,.i c11,.l (.sl 41 .sp) c12,.l .gr c13]) K=fU.l1 (K .ret (fU.l1.q0.mk' [.i c6,.i c7,.l (.sl 41 .sp) c8,.l .gr c9,.i c10,.i c11,.l (.sl 41 .sp) c12,.l .gr c13])) (K (.exit 0) (fU.l1.q1.mk' [.i c6,.i c7,.l (.sl 41 .sp) c8,.l .gr c9,.i c10,.i c11,.l (.sl 41 .sp) c12,.l .gr c13])) c1 c2 c3 c4 c6 c7 c8 c9 c10 c11 c12 c13 k v5:=by
  intro k;induction k with
  | zero=>intros;rfl
  | succ k ih =>
    intros v5
    exact (show fU.C.lK 0 3 0 Tryz.f3 YK rl 2 (k+1) (fU.l1.p.mk' [.l .sp c1,.i c2,.b c3,.l (.int .i64) c4,.i v5,.i c6,.i c7,.l (.sl 41 .sp) c8,.l .gr c9,.i c10,.i c11,.l (.sl 41 .sp) c12,.l .gr c13]) K=fU.l1T (fun v5=>fU.C.lK 0 3 0 Tryz.f3 YK rl 2 k (fU.l1.p.mk' [.l .sp c1,.i c2,.b c3,.l (.int .i64) c4,.i v5,.i c6,.i c7,.l (.sl 41 .sp) c8,.l .gr c9,.i c10,.i c11,.l (.sl 41 .sp) c12,.l .gr c13]) K) (K .ret (fU.l1.q0.mk' [.i c6,.i c7,.l (.sl 41 .sp) c8,.l .gr c9,.i c10,.i c11,.l (.sl 41 .sp) c12,.l .gr c13])) (K (.exit 0) (fU.l1.q1.mk' [.i c6,.i c7,.l (.sl 41 .sp) c8,.l .gr c9,.i c10,.i c11,.l (.sl 41 .sp) c12,.l .gr c13])) c1 c2 c3 c4 c6 c7 c8 c9 c10 c11 c12 c13 k v5 by kernel_rfl).trans (by
      rw [show (fun v5=>fU.C.lK 0 3 0 Tryz.f3 YK rl 2 k (fU.l1.p.mk' [.l .sp c1,.i c2,.b c3,.l (.int .i64) c4,.i v5,.i c6,.i c7,.l (.sl 41 .sp) c8,.l .gr c9,.i c10,.i c11,.l (.sl 41 .sp) c12,.l .gr c13]) K)=fU.l1 (K .ret (fU.l1.q0.mk' [.i c6,.i c7,.l (.sl 41 .sp) c8,.l .gr c9,.i c10,.i c11,.l (.sl 41 .sp) c12,.l .gr c13])) (K (.exit 0) (fU.l1.q1.mk' [.i c6,.i c7,.l (.sl 41 .sp) c8,.l .gr c9,.i c10,.i c11,.l (.sl 41 .sp) c12,.l .gr c13])) c1 c2 c3 c4 c6 c7 c8 c9 c10 c11 c12 c13 k from by exact funext fun v5=>ih v5];rfl)
theorem fU.l0.eq {γ:Type} (YK:HdK γ) (rl:Option Nat) (K:gY→St→Option γ) (k:Nat) (v1:Int) (v2:Int) (v3:Int) (v4:List (List P.S41)) (v5:List P.S43) (v6:Int) (v7:Int) (v8:List (List P.S41)) (v9:List P.S43):fU.C.lK 0 3 1000010 Tryz.f3 YK rl 2 k (fU.l0.p.mk' [.i v1,.i v2,.i v3,.l (.sl 41 .sp) v4,.l .gr v5,.i v6,.i v7,.l (.sl 41 .sp) v8,.l .gr v9]) K=fU.l0 (fun y1 y2 y3 y4 y5 y6 y7 y8=>K .ret (fU.l0.q0.mk' [.i y1,.i y2,.l (.sl 41 .sp) y3,.l .gr y4,.i y5,.i y6,.l (.sl 41 .sp) y7,.l .gr y8])) (fun y1 y2 y3 y4 y5 y6 y7 y8 y9=>K .ret (fU.l0.q1.mk' [.b y1,.i y2,.i y3,.l (.sl 41 .sp) y4,.l .gr y5,.i y6,.i y7,.l (.sl 41 .sp) y8,.l .gr y9])) k v1 v2 v3 v4 v5 v6 v7 v8 v9:=by kernel_rfl
noncomputable def gN.E (k:Nat):kr:=⟨tL.tb,fun f=>lk f [(10,fO.m k),(12,jG.m k),(13,fF.m k),(15,fE.m k),(16,je.m k),(19,fu.m k),(20,kK.m k)],fun f=>jB f [17,18]⟩
noncomputable def gN.l1.p:PS:=⟨nOs 6++[.one (.i .i64),.one (.bp 0 0)]++nOs 4++[.one (.bp 7 0)]++nOs 142,[.box 25 [.li .i64 0,.li .i64 0,.lo 28 (.sl 41 .sp),.s .gr],.box 25 [.i .i64,.i .i64,.s (.sl 41 .sp),.s .gr],.box 3 [.i .i64],.box 3 [.i .i64],.box 4 [.lb true],.box 3 [.li .i64 0],.box 4 [.lb false],.box 25 [.i .i64,.i .i64,.s (.sl 41 .sp),.s .gr]]⟩
noncomputable def gN.l1.q0:PS:=⟨nOs 4++[.one (.b)]++nOs 150,[.box 25 [.li .i64 0,.li .i64 0,.lo 28 (.sl 41 .sp),.s .gr],.box 25 [.i .i64,.i .i64,.s (.sl 41 .sp),.s .gr],.box 3 [.i .i64],.box 3 [.i .i64],.box 4 [.lb true],.box 3 [.li .i64 0],.box 4 [.lb false],.box 25 [.i .i64,.i .i64,.s (.sl 41 .sp),.s .gr]]⟩
noncomputable def gN.l1.q1:PS:=⟨nOs 4++[.one (.lb false)]++nOs 150,[.box 25 [.li .i64 0,.li .i64 0,.lo 28 (.sl 41 .sp),.s .gr],.box 25 [.i .i64,.i .i64,.s (.sl 41 .sp),.s .gr],.box 3 [.i .i64],.box 3 [.i .i64],.box 4 [.lb true],.box 3 [.li .i64 0],.box 4 [.lb false],.box 25 [.i .i64,.i .i64,.s (.sl 41 .sp),.s .gr]]⟩
noncomputable def gN.l1.g {γ:Type} (YK:HdK γ) (k:Nat) (K:gY→St→Option γ):List Lf→Option γ
  | [.i v1,.l .gr v2,.i v3,.i v4,.l (.sl 41 .sp) v5,.l .gr v6,.i v7,.i v8,.i v9,.i v10,.l (.sl 41 .sp) v11,.l .gr v12]=>gN.l1 (fun y1 y2 y3 y4 y5 y6 y7 y8 y9 aa ab ac=>K .ret (gN.l1.q0.mk' [.b y1,.l .gr y2,.i y3,.i y4,.l (.sl 41 .sp) y5,.l .gr y6,.i y7,.i y8,.i y9,.i aa,.l (.sl 41 .sp) ab,.l .gr ac])) (fun y1 y2 y3 y4 y5 y6 y7 y8 y9 aa ab=>K .ret (gN.l1.q1.mk' [.l .gr y1,.i y2,.i y3,.l (.sl 41 .sp) y4,.l .gr y5,.i y6,.i y7,.i y8,.i y9,.l (.sl 41 .sp) aa,.l .gr ab]))  k v1 v2 v3 v4 v5 v6 v7 v8 v9 v10 v11 v12
  | _=>none
noncomputable def gN.l0.p:PS:=⟨nOs 5++[.one (.i .i64),.one (.i .i64),.one (.bp 0 0),.one (.bp 1 0)]++nOs 146,[.box 25 [.li .i64 0,.li .i64 0,.lo 28 (.sl 41 .sp),.s .gr],.box 25 [.i .i64,.i .i64,.s (.sl 41 .sp),.s .gr],.box 3 [.i .i64],.box 3 [.i .i64],.box 4 [.lb true],.box 3 [.li .i64 0],.box 4 [.lb false]]⟩
noncomputable def gN.l0.q0:PS:=⟨nOs 4++[.one (.lb false)]++nOs 150,[.box 25 [.li .i64 0,.li .i64 0,.lo 28 (.sl 41 .sp),.s .gr],.box 25 [.i .i64,.i .i64,.s (.sl 41 .sp),.s .gr],.box 3 [.i .i64],.box 3 [.i .i64],.box 4 [.lb true],.box 3 [.li .i64 0],.box 4 [.lb false],.box 25 [.i .i64,.i .i64,.s (.sl 41 .sp),.s .gr]]⟩
noncomputable def gN.l0.q1:PS:=⟨nOs 4++[.one (.b)]++nOs 150,[.box 25 [.li .i64 0,.li .i64 0,.lo 28 (.sl 41 .sp),.s .gr],.box 25 [.i .i64,.i .i64,.s (.sl 41 .sp),.s .gr],.box 3 [.i .i64],.box 3 [.i .i64],.box 4 [.lb true],.box 3 [.li .i64 0],.box 4 [.lb false],.box 25 [.i .i64,.i .i64,.s (.sl 41 .sp),.s .gr]]⟩
noncomputable def gN.l0.g {γ:Type} (YK:HdK γ) (k:Nat) (K:gY→St→Option γ):List Lf→Option γ
  | [.i v1,.i v2,.l .gr v3,.i v4,.i v5,.l (.sl 41 .sp) v6,.l .gr v7,.i v8,.i v9]=>gN.l0 (fun y1 y2 y3 y4 y5 y6 y7 y8 y9 aa ab=>K .ret (gN.l0.q0.mk' [.l .gr y1,.i y2,.i y3,.l (.sl 41 .sp) y4,.l .gr y5,.i y6,.i y7,.i y8,.i y9,.l (.sl 41 .sp) aa,.l .gr ab])) (fun y1 y2 y3 y4 y5 y6 y7 y8 y9 aa ab ac=>K .ret (gN.l0.q1.mk' [.b y1,.l .gr y2,.i y3,.i y4,.l (.sl 41 .sp) y5,.l .gr y6,.i y7,.i y8,.i y9,.i aa,.l (.sl 41 .sp) ab,.l .gr ac]))  k v1 v2 v3 v4 v5 v6 v7 v8 v9
  | _=>none
noncomputable def gN.C {γ:Type}:Ctx γ:=⟨gN.E,[(4,Tryz.f4),(17,Tryz.f17),(18,Tryz.f18),(43,Tryz.f43),(44,Tryz.f44)],fun f=>(lk f [(4,⟨fun d=>jB d [],fun c=>lk c [(1000022,[5,6,7,8]),(1000040,[6,7,12])],fun c=>lk c [(1000022,[4]),(1000040,[4])],fun _=>none,fun _=>([],[])⟩),(17,⟨fun d=>jB d [],fun c=>lk c [],fun c=>lk c [],fun _=>none,fun _=>([],[])⟩),(18,⟨fun d=>jB d [],fun c=>lk c [],fun c=>lk c [],fun _=>none,fun _=>([],[])⟩),(43,⟨fun d=>jB d [],fun c=>lk c [],fun c=>lk c [],fun _=>none,fun _=>([],[])⟩),(44,⟨fun d=>jB d [],fun c=>lk c [],fun c=>lk c [],fun _=>none,fun _=>([],[])⟩)]).getD ⟨fun _=>false,fun _=>none,fun _=>none,fun _=>none,fun _=>([],[])⟩,[⟨1,4,1000040,j6 [(gN.l1.p,gN.l1.g)]⟩,⟨1,4,1000022,j6 [(gN.l0.p,gN.l0.g)]⟩],[]⟩
theorem gN.l1.eq {γ:Type} (YK:HdK γ) (rl:Option Nat) (K:gY→St→Option γ) (k:Nat) (v1:Int) (v2:List P.S43) (v3:Int) (v4:Int) (v5:List (List P.S41)) (v6:List P.S43) (v7:Int) (v8:Int) (v9:Int) (v10:Int) (v11:List (List P.S41)) (v12:List P.S43):gN.C.lK 1 4 1000040 Tryz.f4 YK rl 8 k (gN.l1.p.mk' [.i v1,.l .gr v2,.i v3,.i v4,.l (.sl 41 .sp) v5,.l .gr v6,.i v7,.i v8,.i v9,.i v10,.l (.sl 41 .sp) v11,.l .gr v12]) K=gN.l1 (fun y1 y2 y3 y4 y5 y6 y7 y8 y9 aa ab ac=>K .ret (gN.l1.q0.mk' [.b y1,.l .gr y2,.i y3,.i y4,.l (.sl 41 .sp) y5,.l .gr y6,.i y7,.i y8,.i y9,.i aa,.l (.sl 41 .sp) ab,.l .gr ac])) (fun y1 y2 y3 y4 y5 y6 y7 y8 y9 aa ab=>K .ret (gN.l1.q1.mk' [.l .gr y1,.i y2,.i y3,.l (.sl 41 .sp) y4,.l .gr y5,.i y6,.i y7,.i y8,.i y9,.l (.sl 41 .sp) aa,.l .gr ab])) k v1 v2 v3 v4 v5 v6 v7 v8 v9 v10 v11 v12:=by kernel_rfl
theorem gN.l0.eq {γ:Type} (YK:HdK γ) (rl:Option Nat) (K:gY→St→Option γ) (k:Nat) (v1:Int) (v2:Int) (v3:List P.S43) (v4:Int) (v5:Int) (v6:List (List P.S41)) (v7:List P.S43) (v8:Int) (v9:Int):gN.C.lK 1 4 1000022 Tryz.f4 YK rl 7 k (gN.l0.p.mk' [.i v1,.i v2,.l .gr v3,.i v4,.i v5,.l (.sl 41 .sp) v6,.l .gr v7,.i v8,.i v9]) K=gN.l0 (fun y1 y2 y3 y4 y5 y6 y7 y8 y9 aa ab=>K .ret (gN.l0.q0.mk' [.l .gr y1,.i y2,.i y3,.l (.sl 41 .sp) y4,.l .gr y5,.i y6,.i y7,.i y8,.i y9,.l (.sl 41 .sp) aa,.l .gr ab])) (fun y1 y2 y3 y4 y5 y6 y7 y8 y9 aa ab ac=>K .ret (gN.l0.q1.mk' [.b y1,.l .gr y2,.i y3,.i y4,.l (.sl 41 .sp) y5,.l .gr y6,.i y7,.i y8,.i y9,.i aa,.l (.sl 41 .sp) ab,.l .gr ac])) k v1 v2 v3 v4 v5 v6 v7 v8 v9:=by kernel_rfl
end Go.Proofs.YtongeknogcboiaaGreat.R
namespace Go.Proofs.YtongeknogcboiaaGreat.R
open M Go.RowKit Go.Proofs.YtongeknogcboiaaGreatW.gy Go.Proofs.YtongeknogcboiaaGreatW.iE Go.Proofs.YtongeknogcboiaaGreatW.jh
set_option linter.unusedVariables false
noncomputable def gu.E (k:Nat):kr:=⟨tL.tb,fun f=>lk f [(9,iO.m k),(52,iR.m k)],fun _=>false⟩
noncomputable def gu.l0.p:PS:=⟨[nO,.one (.bp 0 0)]++nOs 18++[.one (.s (.sl 41 .sp)),.one (.i .i64),.one (.i .i64)]++nOs 55,[.box 25 [.i .i64,.i .i64,.s (.sl 41 .sp),.s .gr]]⟩
noncomputable def gu.l0.q0:PS:=⟨[nO,.one (.bp 0 0),.one (.lb false)]++nOs 75,[.box 25 [.i .i64,.i .i64,.s (.sl 41 .sp),.s .gr]]⟩
noncomputable def gu.l0.q1:PS:=⟨[nO,.one (.bp 0 0)]++nOs 76,[.box 25 [.i .i64,.i .i64,.s (.sl 41 .sp),.s .gr]]⟩
noncomputable def gu.l0.g {γ:Type} (YK:HdK γ) (k:Nat) (K:gY→St→Option γ):List Lf→Option γ
  | [.l (.sl 41 .sp) c1,.i c2,.i v3,.i c4,.i c5,.l (.sl 41 .sp) c6,.l .gr c7]=>gu.l0 (K .ret (gu.l0.q0.mk' [.i c4,.i c5,.l (.sl 41 .sp) c6,.l .gr c7])) (K (.exit 0) (gu.l0.q1.mk' [.i c4,.i c5,.l (.sl 41 .sp) c6,.l .gr c7])) c1 c2 c4 c5 c6 c7 k v3
  | _=>none
noncomputable def gu.l1.p:PS:=⟨nOs 44++[.one (.s .gr),.one (.i .i64),.one (.i .i64)]++nOs 31,[.box 25 [.i .i64,.i .i64,.s (.sl 41 .sp),.s .gr]]⟩
noncomputable def gu.l1.q0:PS:=⟨[nO,nO,.one (.lb false)]++nOs 75,[.box 25 [.i .i64,.i .i64,.s (.sl 41 .sp),.s .gr]]⟩
noncomputable def gu.l1.q1:PS:=⟨nOs 78,[.box 25 [.i .i64,.i .i64,.s (.sl 41 .sp),.s .gr]]⟩
noncomputable def gu.l1.g {γ:Type} (YK:HdK γ) (k:Nat) (K:gY→St→Option γ):List Lf→Option γ
  | [.l .gr c1,.i c2,.i v3,.i c4,.i c5,.l (.sl 41 .sp) c6,.l .gr c7]=>gu.l1 (K .ret (gu.l1.q0.mk' [.i c4,.i c5,.l (.sl 41 .sp) c6,.l .gr c7])) (K (.exit 2) (gu.l1.q1.mk' [.i c4,.i c5,.l (.sl 41 .sp) c6,.l .gr c7])) c1 c2 c4 c5 c6 c7 k v3
  | _=>none
noncomputable def gu.C {γ:Type}:Ctx γ:=⟨gu.E,[(21,Tryz.f21)],fun f=>(lk f [(21,⟨fun d=>jB d [],fun c=>lk c [(0,[1,20,21,22]),(2,[44,45,46])],fun c=>lk c [(0,[1,2]),(2,[2])],fun _=>none,fun _=>([],[])⟩)]).getD ⟨fun _=>false,fun _=>none,fun _=>none,fun _=>none,fun _=>([],[])⟩,[⟨0,21,0,j6 [(gu.l0.p,gu.l0.g)]⟩,⟨0,21,2,j6 [(gu.l1.p,gu.l1.g)]⟩],[]⟩
theorem gu.l0.eq {γ:Type} (YK:HdK γ) (rl:Option Nat) (K:gY→St→Option γ) (c1:List (List P.S41)) (c2:Int) (c4:Int) (c5:Int) (c6:List (List P.S41)) (c7:List P.S43):∀ (k:Nat) (v3:Int),gu.C.lK 0 21 0 Tryz.f21 YK rl 1 k (gu.l0.p.mk' [.l (.sl 41 .sp) c1,.i c2,.i v3,.i c4,.i c5,.l (.sl 41 .sp) c6,.l .gr c7]) K=gu.l0 (K .ret (gu.l0.q0.mk' [.i c4,.i c5,.l (.sl 41 .sp) c6,.l .gr c7])) (K (.exit 0) (gu.l0.q1.mk' [.i c4,.i c5,.l (.sl 41 .sp) c6,.l .gr c7])) c1 c2 c4 c5 c6 c7 k v3:=by
  intro k;induction k with
  | zero=>intros;rfl
  | succ k ih =>
    intros v3
    exact (show gu.C.lK 0 21 0 Tryz.f21 YK rl 1 (k+1) (gu.l0.p.mk' [.l (.sl 41 .sp) c1,.i c2,.i v3,.i c4,.i c5,.l (.sl 41 .sp) c6,.l .gr c7]) K=gu.l0T (fun v3=>gu.C.lK 0 21 0 Tryz.f21 YK rl 1 k (gu.l0.p.mk' [.l (.sl 41 .sp) c1,.i c2,.i v3,.i c4,.i c5,.l (.sl 41 .sp) c6,.l .gr c7]) K) (K .ret (gu.l0.q0.mk' [.i c4,.i c5,.l (.sl 41 .sp) c6,.l .gr c7])) (K (.exit 0) (gu.l0.q1.mk' [.i c4,.i c5,.l (.sl 41 .sp) c6,.l .gr c7])) c1 c2 c4 c5 c6 c7 k v3 by kernel_rfl).trans (by
      rw [show (fun v3=>gu.C.lK 0 21 0 Tryz.f21 YK rl 1 k (gu.l0.p.mk' [.l (.sl 41 .sp) c1,.i c2,.i v3,.i c4,.i c5,.l (.sl 41 .sp) c6,.l .gr c7]) K)=gu.l0 (K .ret (gu.l0.q0.mk' [.i c4,.i c5,.l (.sl 41 .sp) c6,.l .gr c7])) (K (.exit 0) (gu.l0.q1.mk' [.i c4,.i c5,.l (.sl 41 .sp) c6,.l .gr c7])) c1 c2 c4 c5 c6 c7 k from by exact funext fun v3=>ih v3];rfl)
theorem gu.l1.eq {γ:Type} (YK:HdK γ) (rl:Option Nat) (K:gY→St→Option γ) (c1:List P.S43) (c2:Int) (c4:Int) (c5:Int) (c6:List (List P.S41)) (c7:List P.S43):∀ (k:Nat) (v3:Int),gu.C.lK 0 21 2 Tryz.f21 YK rl 1 k (gu.l1.p.mk' [.l .gr c1,.i c2,.i v3,.i c4,.i c5,.l (.sl 41 .sp) c6,.l .gr c7]) K=gu.l1 (K .ret (gu.l1.q0.mk' [.i c4,.i c5,.l (.sl 41 .sp) c6,.l .gr c7])) (K (.exit 2) (gu.l1.q1.mk' [.i c4,.i c5,.l (.sl 41 .sp) c6,.l .gr c7])) c1 c2 c4 c5 c6 c7 k v3:=by
  intro k;induction k with
  | zero=>intros;rfl
  | succ k ih =>
    intros v3
    exact (show gu.C.lK 0 21 2 Tryz.f21 YK rl 1 (k+1) (gu.l1.p.mk' [.l .gr c1,.i c2,.i v3,.i c4,.i c5,.l (.sl 41 .sp) c6,.l .gr c7]) K=gu.l1T (fun v3=>gu.C.lK 0 21 2 Tryz.f21 YK rl 1 k (gu.l1.p.mk' [.l .gr c1,.i c2,.i v3,.i c4,.i c5,.l (.sl 41 .sp) c6,.l .gr c7]) K) (K .ret (gu.l1.q0.mk' [.i c4,.i c5,.l (.sl 41 .sp) c6,.l .gr c7])) (K (.exit 2) (gu.l1.q1.mk' [.i c4,.i c5,.l (.sl 41 .sp) c6,.l .gr c7])) c1 c2 c4 c5 c6 c7 k v3 by kernel_rfl).trans (by
      rw [show (fun v3=>gu.C.lK 0 21 2 Tryz.f21 YK rl 1 k (gu.l1.p.mk' [.l .gr c1,.i c2,.i v3,.i c4,.i c5,.l (.sl 41 .sp) c6,.l .gr c7]) K)=gu.l1 (K .ret (gu.l1.q0.mk' [.i c4,.i c5,.l (.sl 41 .sp) c6,.l .gr c7])) (K (.exit 2) (gu.l1.q1.mk' [.i c4,.i c5,.l (.sl 41 .sp) c6,.l .gr c7])) c1 c2 c4 c5 c6 c7 k from by exact funext fun v3=>ih v3];rfl)
noncomputable def lW.m (k:Nat):Sm:=kE [(.sl 41 .sp)] [.own 41 .sp] (fun a=>lW.f k a.1)
noncomputable def gF.E (k:Nat):kr:=⟨tL.tb,fun f=>lk f [(53,lW.m k)],fun _=>false⟩
noncomputable def gF.l0.p:PS:=⟨[nO,.one (.bp 0 0),.one (.bp 1 0),.one (.bp 2 0)]++nOs 10++[.one (.s (.sl 41 .sp)),.one (.i .i64),.one (.i .i64)]++nOs 31,[.box 25 [.i .i64,.i .i64,.s (.sl 41 .sp),.s .gr],.box 25 [.li .i64 0,.li .i64 0,.lo 28 (.sl 41 .sp),.lo 43 .gr],.box 25 [.i .i64,.i .i64,.o 28 (.sl 41 .sp),.lo 43 .gr]]⟩
noncomputable def gF.l0.q0:PS:=⟨[nO,.one (.bp 0 0),.one (.bp 1 0),.one (.bp 2 0)]++nOs 44,[.box 25 [.i .i64,.i .i64,.s (.sl 41 .sp),.s .gr],.box 25 [.li .i64 0,.li .i64 0,.lo 28 (.sl 41 .sp),.lo 43 .gr],.box 25 [.i .i64,.i .i64,.o 28 (.sl 41 .sp),.lo 43 .gr]]⟩
noncomputable def gF.l0.g {γ:Type} (YK:HdK γ) (k:Nat) (K:gY→St→Option γ):List Lf→Option γ
  | [.l (.sl 41 .sp) c1,.i c2,.i v3,.i c4,.i c5,.l (.sl 41 .sp) c6,.l .gr c7,.i c8,.i c9,.l (.sl 41 .sp) v10]=>gF.l0 (fun y1=>K (.exit 0) (gF.l0.q0.mk' [.i c4,.i c5,.l (.sl 41 .sp) c6,.l .gr c7,.i c8,.i c9,.l (.sl 41 .sp) y1])) c1 c2 c4 c5 c6 c7 c8 c9 k v3 v10
  | _=>none
noncomputable def gF.l1.p:PS:=⟨[nO,nO,.one (.bp 1 0),.one (.bp 2 0)]++nOs 25++[.one (.s .gr),.one (.i .i64),.one (.i .i64)]++nOs 16,[.box 25 [.i .i64,.i .i64,.s (.sl 41 .sp),.s .gr],.box 25 [.li .i64 0,.li .i64 0,.lo 28 (.sl 41 .sp),.lo 43 .gr],.box 25 [.i .i64,.i .i64,.o 28 (.sl 41 .sp),.o 43 .gr]]⟩
noncomputable def gF.l1.q0:PS:=⟨[nO,nO,.one (.bp 1 0),.one (.bp 2 0)]++nOs 44,[.box 25 [.i .i64,.i .i64,.s (.sl 41 .sp),.s .gr],.box 25 [.li .i64 0,.li .i64 0,.lo 28 (.sl 41 .sp),.lo 43 .gr],.box 25 [.i .i64,.i .i64,.o 28 (.sl 41 .sp),.o 43 .gr]]⟩
noncomputable def gF.l1.g {γ:Type} (YK:HdK γ) (k:Nat) (K:gY→St→Option γ):List Lf→Option γ
  | [.l .gr c1,.i c2,.i v3,.i c4,.i c5,.l (.sl 41 .sp) c6,.l .gr c7,.i c8,.i c9,.l (.sl 41 .sp) c10,.l .gr v11]=>gF.l1 (fun y1=>K (.exit 2) (gF.l1.q0.mk' [.i c4,.i c5,.l (.sl 41 .sp) c6,.l .gr c7,.i c8,.i c9,.l (.sl 41 .sp) c10,.l .gr y1])) c1 c2 c4 c5 c6 c7 c8 c9 c10 k v3 v11
  | _=>none
noncomputable def gF.C {γ:Type}:Ctx γ:=⟨gF.E,[(22,Tryz.f22)],fun f=>(lk f [(22,⟨fun d=>jB d [21,36,47],fun c=>lk c [(0,[1,2,3,14,15,16]),(2,[2,3,29,30,31])],fun c=>lk c [(0,[1,2,3]),(2,[2,3])],fun _=>none,fun _=>([],[])⟩)]).getD ⟨fun _=>false,fun _=>none,fun _=>none,fun _=>none,fun _=>([],[])⟩,[⟨0,22,0,j6 [(gF.l0.p,gF.l0.g)]⟩,⟨0,22,2,j6 [(gF.l1.p,gF.l1.g)]⟩],[]⟩
theorem gF.l0.eq {γ:Type} (YK:HdK γ) (rl:Option Nat) (K:gY→St→Option γ) (c1:List (List P.S41)) (c2:Int) (c4:Int) (c5:Int) (c6:List (List P.S41)) (c7:List P.S43) (c8:Int) (c9:Int):∀ (k:Nat) (v3:Int) (v10:List (List P.S41)),gF.C.lK 0 22 0 Tryz.f22 YK rl 3 k (gF.l0.p.mk' [.l (.sl 41 .sp) c1,.i c2,.i v3,.i c4,.i c5,.l (.sl 41 .sp) c6,.l .gr c7,.i c8,.i c9,.l (.sl 41 .sp) v10]) K=gF.l0 (fun y1=>K (.exit 0) (gF.l0.q0.mk' [.i c4,.i c5,.l (.sl 41 .sp) c6,.l .gr c7,.i c8,.i c9,.l (.sl 41 .sp) y1])) c1 c2 c4 c5 c6 c7 c8 c9 k v3 v10:=by
  intro k;induction k with
  | zero=>intros;rfl
  | succ k ih =>
    intros v3 v10
    exact (show gF.C.lK 0 22 0 Tryz.f22 YK rl 3 (k+1) (gF.l0.p.mk' [.l (.sl 41 .sp) c1,.i c2,.i v3,.i c4,.i c5,.l (.sl 41 .sp) c6,.l .gr c7,.i c8,.i c9,.l (.sl 41 .sp) v10]) K=gF.l0T (fun v3 v10=>gF.C.lK 0 22 0 Tryz.f22 YK rl 3 k (gF.l0.p.mk' [.l (.sl 41 .sp) c1,.i c2,.i v3,.i c4,.i c5,.l (.sl 41 .sp) c6,.l .gr c7,.i c8,.i c9,.l (.sl 41 .sp) v10]) K) (fun y1=>K (.exit 0) (gF.l0.q0.mk' [.i c4,.i c5,.l (.sl 41 .sp) c6,.l .gr c7,.i c8,.i c9,.l (.sl 41 .sp) y1])) c1 c2 c4 c5 c6 c7 c8 c9 k v3 v10 by kernel_rfl).trans (by
      rw [show (fun v3 v10=>gF.C.lK 0 22 0 Tryz.f22 YK rl 3 k (gF.l0.p.mk' [.l (.sl 41 .sp) c1,.i c2,.i v3,.i c4,.i c5,.l (.sl 41 .sp) c6,.l .gr c7,.i c8,.i c9,.l (.sl 41 .sp) v10]) K)=gF.l0 (fun y1=>K (.exit 0) (gF.l0.q0.mk' [.i c4,.i c5,.l (.sl 41 .sp) c6,.l .gr c7,.i c8,.i c9,.l (.sl 41 .sp) y1])) c1 c2 c4 c5 c6 c7 c8 c9 k from by exact funext fun v3=>funext fun v10=>ih v3 v10];rfl)
theorem gF.l1.eq {γ:Type} (YK:HdK γ) (rl:Option Nat) (K:gY→St→Option γ) (c1:List P.S43) (c2:Int) (c4:Int) (c5:Int) (c6:List (List P.S41)) (c7:List P.S43) (c8:Int) (c9:Int) (c10:List (List P.S41)):∀ (k:Nat) (v3:Int) (v11:List P.S43),gF.C.lK 0 22 2 Tryz.f22 YK rl 3 k (gF.l1.p.mk' [.l .gr c1,.i c2,.i v3,.i c4,.i c5,.l (.sl 41 .sp) c6,.l .gr c7,.i c8,.i c9,.l (.sl 41 .sp) c10,.l .gr v11]) K=gF.l1 (fun y1=>K (.exit 2) (gF.l1.q0.mk' [.i c4,.i c5,.l (.sl 41 .sp) c6,.l .gr c7,.i c8,.i c9,.l (.sl 41 .sp) c10,.l .gr y1])) c1 c2 c4 c5 c6 c7 c8 c9 c10 k v3 v11:=by
  intro k;induction k with
  | zero=>intros;rfl
  | succ k ih =>
    intros v3 v11
    exact (show gF.C.lK 0 22 2 Tryz.f22 YK rl 3 (k+1) (gF.l1.p.mk' [.l .gr c1,.i c2,.i v3,.i c4,.i c5,.l (.sl 41 .sp) c6,.l .gr c7,.i c8,.i c9,.l (.sl 41 .sp) c10,.l .gr v11]) K=gF.l1T (fun v3 v11=>gF.C.lK 0 22 2 Tryz.f22 YK rl 3 k (gF.l1.p.mk' [.l .gr c1,.i c2,.i v3,.i c4,.i c5,.l (.sl 41 .sp) c6,.l .gr c7,.i c8,.i c9,.l (.sl 41 .sp) c10,.l .gr v11]) K) (fun y1=>K (.exit 2) (gF.l1.q0.mk' [.i c4,.i c5,.l (.sl 41 .sp) c6,.l .gr c7,.i c8,.i c9,.l (.sl 41 .sp) c10,.l .gr y1])) c1 c2 c4 c5 c6 c7 c8 c9 c10 k v3 v11 by kernel_rfl).trans (by
      rw [show (fun v3 v11=>gF.C.lK 0 22 2 Tryz.f22 YK rl 3 k (gF.l1.p.mk' [.l .gr c1,.i c2,.i v3,.i c4,.i c5,.l (.sl 41 .sp) c6,.l .gr c7,.i c8,.i c9,.l (.sl 41 .sp) c10,.l .gr v11]) K)=gF.l1 (fun y1=>K (.exit 2) (gF.l1.q0.mk' [.i c4,.i c5,.l (.sl 41 .sp) c6,.l .gr c7,.i c8,.i c9,.l (.sl 41 .sp) c10,.l .gr y1])) c1 c2 c4 c5 c6 c7 c8 c9 c10 k from by exact funext fun v3=>funext fun v11=>ih v3 v11];rfl)
noncomputable def kG.m (k:Nat):Sm:=kE [(.int .i64),(.int .i64)] [.pl (.int .i64),.pl (.int .i64)] (fun a=>kG.f k a.1 a.2.1)
noncomputable def iB.E (k:Nat):kr:=⟨tL.tb,fun f=>lk f [(127,kG.m k)],fun _=>false⟩
noncomputable def iB.l0.p:PS:=⟨[nO,.one (.i .i64),.one (.bp 0 0)]++nOs 3++[.one (.i .i64)]++nOs 39,[.box 25 [.i .i64,.i .i64,.s (.sl 41 .sp),.s .gr]]⟩
noncomputable def iB.l0.q0:PS:=⟨[nO,.one (.i .i64),.one (.bp 0 0),nO,.one (.s .sp),.one (.li .i64 0)]++nOs 40,[.box 25 [.i .i64,.i .i64,.s (.sl 41 .sp),.s .gr]]⟩
noncomputable def iB.l0.q1:PS:=⟨[nO,.one (.i .i64),.one (.bp 0 0)]++nOs 43,[.box 25 [.i .i64,.i .i64,.s (.sl 41 .sp),.s .gr]]⟩
noncomputable def iB.l0.g {γ:Type} (YK:HdK γ) (k:Nat) (K:gY→St→Option γ):List Lf→Option γ
  | [.i c1,.i v2,.i c3,.i c4,.l (.sl 41 .sp) c5,.l .gr c6]=>iB.l0 (fun y1=>K .ret (iB.l0.q0.mk' [.i c1,.l .sp y1,.i c3,.i c4,.l (.sl 41 .sp) c5,.l .gr c6])) (K (.exit 0) (iB.l0.q1.mk' [.i c1,.i c3,.i c4,.l (.sl 41 .sp) c5,.l .gr c6])) c1 c3 c4 c5 c6 k v2
  | _=>none
noncomputable def iB.C {γ:Type}:Ctx γ:=⟨iB.E,[(90,Tryz.f90)],fun f=>(lk f [(90,⟨fun d=>jB d [],fun c=>lk c [(0,[1,2,6])],fun c=>lk c [(0,[1,2,4,5])],fun _=>none,fun _=>([],[])⟩)]).getD ⟨fun _=>false,fun _=>none,fun _=>none,fun _=>none,fun _=>([],[])⟩,[⟨0,90,0,j6 [(iB.l0.p,iB.l0.g)]⟩],[]⟩
theorem iB.l0.eq {γ:Type} (YK:HdK γ) (rl:Option Nat) (K:gY→St→Option γ) (c1:Int) (c3:Int) (c4:Int) (c5:List (List P.S41)) (c6:List P.S43):∀ (k:Nat) (v2:Int),iB.C.lK 0 90 0 Tryz.f90 YK rl 1 k (iB.l0.p.mk' [.i c1,.i v2,.i c3,.i c4,.l (.sl 41 .sp) c5,.l .gr c6]) K=iB.l0 (fun y1=>K .ret (iB.l0.q0.mk' [.i c1,.l .sp y1,.i c3,.i c4,.l (.sl 41 .sp) c5,.l .gr c6])) (K (.exit 0) (iB.l0.q1.mk' [.i c1,.i c3,.i c4,.l (.sl 41 .sp) c5,.l .gr c6])) c1 c3 c4 c5 c6 k v2:=by
  intro k;induction k with
  | zero=>intros;rfl
  | succ k ih =>
    intros v2
    exact (show iB.C.lK 0 90 0 Tryz.f90 YK rl 1 (k+1) (iB.l0.p.mk' [.i c1,.i v2,.i c3,.i c4,.l (.sl 41 .sp) c5,.l .gr c6]) K=iB.l0T (fun v2=>iB.C.lK 0 90 0 Tryz.f90 YK rl 1 k (iB.l0.p.mk' [.i c1,.i v2,.i c3,.i c4,.l (.sl 41 .sp) c5,.l .gr c6]) K) (fun y1=>K .ret (iB.l0.q0.mk' [.i c1,.l .sp y1,.i c3,.i c4,.l (.sl 41 .sp) c5,.l .gr c6])) (K (.exit 0) (iB.l0.q1.mk' [.i c1,.i c3,.i c4,.l (.sl 41 .sp) c5,.l .gr c6])) c1 c3 c4 c5 c6 k v2 by kernel_rfl).trans (by
      rw [show (fun v2=>iB.C.lK 0 90 0 Tryz.f90 YK rl 1 k (iB.l0.p.mk' [.i c1,.i v2,.i c3,.i c4,.l (.sl 41 .sp) c5,.l .gr c6]) K)=iB.l0 (fun y1=>K .ret (iB.l0.q0.mk' [.i c1,.l .sp y1,.i c3,.i c4,.l (.sl 41 .sp) c5,.l .gr c6])) (K (.exit 0) (iB.l0.q1.mk' [.i c1,.i c3,.i c4,.l (.sl 41 .sp) c5,.l .gr c6])) c1 c3 c4 c5 c6 k from by exact funext fun v2=>ih v2];rfl)
noncomputable def gZ.E (k:Nat):kr:=⟨tL.tb,fun f=>lk f [],fun _=>false⟩
noncomputable def gZ.l0.p:PS:=⟨[.one (.s .sp),.one (.i .i64)]++nOs 4++[.one (.o 41 .sp),.one (.i .i64)]++nOs 43,[]⟩
noncomputable def gZ.l0.q0:PS:=⟨nOs 4++[.one (.lo 41 .sp),.one (.li .i64 20),.one (.o 41 .sp)]++nOs 44,[]⟩
noncomputable def gZ.l0.q1:PS:=⟨nOs 6++[.one (.o 41 .sp)]++nOs 44,[]⟩
noncomputable def gZ.l0.g {γ:Type} (YK:HdK γ) (k:Nat) (K:gY→St→Option γ):List Lf→Option γ
  | [.l .sp c1,.i c2,.l .sp v3,.i v4]=>gZ.l0 (fun y1=>K .ret (gZ.l0.q0.mk' [.l .sp y1])) (fun y1=>K (.exit 0) (gZ.l0.q1.mk' [.l .sp y1])) c1 c2 k v3 v4
  | _=>none
noncomputable def gZ.C {γ:Type}:Ctx γ:=⟨gZ.E,[(91,Tryz.f91)],fun f=>(lk f [(91,⟨fun d=>jB d [32,50],fun c=>lk c [(0,[0,1,6,7])],fun c=>lk c [(0,[4,5,6])],fun _=>none,fun _=>([],[])⟩)]).getD ⟨fun _=>false,fun _=>none,fun _=>none,fun _=>none,fun _=>([],[])⟩,[⟨0,91,0,j6 [(gZ.l0.p,gZ.l0.g)]⟩],[]⟩
theorem gZ.l0.eq {γ:Type} (YK:HdK γ) (rl:Option Nat) (K:gY→St→Option γ) (c1:List P.S41) (c2:Int):∀ (k:Nat) (v3:List P.S41) (v4:Int),gZ.C.lK 0 91 0 Tryz.f91 YK rl 0 k (gZ.l0.p.mk' [.l .sp c1,.i c2,.l .sp v3,.i v4]) K=gZ.l0 (fun y1=>K .ret (gZ.l0.q0.mk' [.l .sp y1])) (fun y1=>K (.exit 0) (gZ.l0.q1.mk' [.l .sp y1])) c1 c2 k v3 v4:=by
  intro k;induction k with
  | zero=>intros;rfl
  | succ k ih =>
    intros v3 v4
    exact (show gZ.C.lK 0 91 0 Tryz.f91 YK rl 0 (k+1) (gZ.l0.p.mk' [.l .sp c1,.i c2,.l .sp v3,.i v4]) K=gZ.l0T (fun v3 v4=>gZ.C.lK 0 91 0 Tryz.f91 YK rl 0 k (gZ.l0.p.mk' [.l .sp c1,.i c2,.l .sp v3,.i v4]) K) (fun y1=>K .ret (gZ.l0.q0.mk' [.l .sp y1])) (fun y1=>K (.exit 0) (gZ.l0.q1.mk' [.l .sp y1])) c1 c2 k v3 v4 by kernel_rfl).trans (by
      rw [show (fun v3 v4=>gZ.C.lK 0 91 0 Tryz.f91 YK rl 0 k (gZ.l0.p.mk' [.l .sp c1,.i c2,.l .sp v3,.i v4]) K)=gZ.l0 (fun y1=>K .ret (gZ.l0.q0.mk' [.l .sp y1])) (fun y1=>K (.exit 0) (gZ.l0.q1.mk' [.l .sp y1])) c1 c2 k from by exact funext fun v3=>funext fun v4=>ih v3 v4];rfl)
noncomputable def kL.m (k:Nat):Sm:=kE [.fm,(.int .i64)] [.own 41 .sp,.pl (.int .i64)] (fun a=>kL.f k a.1.f0 a.1.f1 a.1.f2 a.1.f3 a.2.1)
noncomputable def gQ.m (k:Nat):Sm:=kE [(.sl 3 (.int .i64)),(.int .i64)] [.own 3 (.int .i64)] (fun a=>gQ.f k a.1 a.2.1)
noncomputable def gQ.E (k:Nat):kr:=⟨tL.tb,fun f=>lk f [],fun _=>false⟩
noncomputable def gQ.l0.p:PS:=⟨[.one (.s (.int .i64)),.one (.i .i64)]++nOs 3++[.one (.o 3 (.int .i64)),.one (.b),.one (.i .i64)]++nOs 40,[]⟩
noncomputable def gQ.l0.q0:PS:=⟨[nO,.one (.i .i64)]++nOs 3++[.one (.o 3 (.int .i64)),.one (.b)]++nOs 41,[]⟩
noncomputable def gQ.l0.g {γ:Type} (YK:HdK γ) (k:Nat) (K:gY→St→Option γ):List Lf→Option γ
  | [.l (.int .i64) c1,.i c2,.l (.int .i64) v3,.b v4,.i v5]=>gQ.l0 (fun y1 y2=>K (.exit 0) (gQ.l0.q0.mk' [.i c2,.l (.int .i64) y1,.b y2])) c1 c2 k v3 v4 v5
  | _=>none
noncomputable def gQ.C {γ:Type}:Ctx γ:=⟨gQ.E,[(130,Tryz.f130)],fun f=>(lk f [(130,⟨fun d=>jB d [30,34,43,47],fun c=>lk c [(0,[0,1,5,6,7])],fun c=>lk c [(0,[1,5,6])],fun _=>none,fun _=>([],[])⟩)]).getD ⟨fun _=>false,fun _=>none,fun _=>none,fun _=>none,fun _=>([],[])⟩,[⟨0,130,0,j6 [(gQ.l0.p,gQ.l0.g)]⟩],[]⟩
theorem gQ.l0.eq {γ:Type} (YK:HdK γ) (rl:Option Nat) (K:gY→St→Option γ) (c1:List Int) (c2:Int):∀ (k:Nat) (v3:List Int) (v4:Bool) (v5:Int),gQ.C.lK 0 130 0 Tryz.f130 YK rl 0 k (gQ.l0.p.mk' [.l (.int .i64) c1,.i c2,.l (.int .i64) v3,.b v4,.i v5]) K=gQ.l0 (fun y1 y2=>K (.exit 0) (gQ.l0.q0.mk' [.i c2,.l (.int .i64) y1,.b y2])) c1 c2 k v3 v4 v5:=by
  intro k;induction k with
  | zero=>intros;rfl
  | succ k ih =>
    intros v3 v4 v5
    exact (show gQ.C.lK 0 130 0 Tryz.f130 YK rl 0 (k+1) (gQ.l0.p.mk' [.l (.int .i64) c1,.i c2,.l (.int .i64) v3,.b v4,.i v5]) K=gQ.l0T (fun v3 v4 v5=>gQ.C.lK 0 130 0 Tryz.f130 YK rl 0 k (gQ.l0.p.mk' [.l (.int .i64) c1,.i c2,.l (.int .i64) v3,.b v4,.i v5]) K) (fun y1 y2=>K (.exit 0) (gQ.l0.q0.mk' [.i c2,.l (.int .i64) y1,.b y2])) c1 c2 k v3 v4 v5 by kernel_rfl).trans (by
      rw [show (fun v3 v4 v5=>gQ.C.lK 0 130 0 Tryz.f130 YK rl 0 k (gQ.l0.p.mk' [.l (.int .i64) c1,.i c2,.l (.int .i64) v3,.b v4,.i v5]) K)=gQ.l0 (fun y1 y2=>K (.exit 0) (gQ.l0.q0.mk' [.i c2,.l (.int .i64) y1,.b y2])) c1 c2 k from by exact funext fun v3=>funext fun v4=>funext fun v5=>ih v3 v4 v5];rfl)
end Go.Proofs.YtongeknogcboiaaGreat.R
namespace Go.Proofs.YtongeknogcboiaaGreat.R
open M Go.RowKit Go.Proofs.YtongeknogcboiaaGreatW.gy Go.Proofs.YtongeknogcboiaaGreatW.iE Go.Proofs.YtongeknogcboiaaGreatW.jh
set_option linter.unusedVariables false
noncomputable def fQ.m (k:Nat):Sm:=kE [(.sl 41 .sp),(.sl 41 .sp)] [.own 3 (.int .i64)] (fun a=>fQ.f k a.1 a.2.1)
noncomputable def fQ.E (k:Nat):kr:=⟨tL.tb,fun f=>lk f [(130,gQ.m k)],fun _=>false⟩
noncomputable def fQ.l0.p:PS:=⟨[.one (.s .sp),.one (.s .sp)]++nOs 3++[.one (.o 3 (.int .i64)),.one (.i .i64)]++nOs 42,[]⟩
noncomputable def fQ.l0.q0:PS:=⟨[nO,.one (.s .sp)]++nOs 3++[.one (.o 3 (.int .i64))]++nOs 43,[]⟩
noncomputable def fQ.l0.g {γ:Type} (YK:HdK γ) (k:Nat) (K:gY→St→Option γ):List Lf→Option γ
  | [.l .sp c1,.l .sp c2,.l (.int .i64) v3,.i v4]=>fQ.l0 (fun y1=>K (.exit 0) (fQ.l0.q0.mk' [.l .sp c2,.l (.int .i64) y1])) c1 c2 k v3 v4
  | _=>none
noncomputable def fQ.l1.p:PS:=⟨[nO,.one (.s .sp)]++nOs 3++[.one (.o 3 (.int .i64)),nO,.one (.i .i64)]++nOs 41,[]⟩
noncomputable def fQ.l1.q0:PS:=⟨nOs 5++[.one (.o 3 (.int .i64))]++nOs 43,[]⟩
noncomputable def fQ.l1.g {γ:Type} (YK:HdK γ) (k:Nat) (K:gY→St→Option γ):List Lf→Option γ
  | [.l .sp c1,.l (.int .i64) v2,.i v3]=>fQ.l1 (fun y1=>K (.exit 2) (fQ.l1.q0.mk' [.l (.int .i64) y1])) c1 k v2 v3
  | _=>none
noncomputable def fQ.C {γ:Type}:Ctx γ:=⟨fQ.E,[(93,Tryz.f93)],fun f=>(lk f [(93,⟨fun d=>jB d [48],fun c=>lk c [(0,[0,1,5,6]),(2,[1,5,7])],fun c=>lk c [(0,[1,5]),(2,[5])],fun _=>none,fun _=>([],[])⟩)]).getD ⟨fun _=>false,fun _=>none,fun _=>none,fun _=>none,fun _=>([],[])⟩,[⟨0,93,0,j6 [(fQ.l0.p,fQ.l0.g)]⟩,⟨0,93,2,j6 [(fQ.l1.p,fQ.l1.g)]⟩],[]⟩
theorem fQ.l0.eq {γ:Type} (YK:HdK γ) (rl:Option Nat) (K:gY→St→Option γ) (c1:List P.S41) (c2:List P.S41):∀ (k:Nat) (v3:List Int) (v4:Int),fQ.C.lK 0 93 0 Tryz.f93 YK rl 0 k (fQ.l0.p.mk' [.l .sp c1,.l .sp c2,.l (.int .i64) v3,.i v4]) K=fQ.l0 (fun y1=>K (.exit 0) (fQ.l0.q0.mk' [.l .sp c2,.l (.int .i64) y1])) c1 c2 k v3 v4:=by
  intro k;induction k with
  | zero=>intros;rfl
  | succ k ih =>
    intros v3 v4
    exact (show fQ.C.lK 0 93 0 Tryz.f93 YK rl 0 (k+1) (fQ.l0.p.mk' [.l .sp c1,.l .sp c2,.l (.int .i64) v3,.i v4]) K=fQ.l0T (fun v3 v4=>fQ.C.lK 0 93 0 Tryz.f93 YK rl 0 k (fQ.l0.p.mk' [.l .sp c1,.l .sp c2,.l (.int .i64) v3,.i v4]) K) (fun y1=>K (.exit 0) (fQ.l0.q0.mk' [.l .sp c2,.l (.int .i64) y1])) c1 c2 k v3 v4 by kernel_rfl).trans (by
      rw [show (fun v3 v4=>fQ.C.lK 0 93 0 Tryz.f93 YK rl 0 k (fQ.l0.p.mk' [.l .sp c1,.l .sp c2,.l (.int .i64) v3,.i v4]) K)=fQ.l0 (fun y1=>K (.exit 0) (fQ.l0.q0.mk' [.l .sp c2,.l (.int .i64) y1])) c1 c2 k from by exact funext fun v3=>funext fun v4=>ih v3 v4];rfl)
theorem fQ.l1.eq {γ:Type} (YK:HdK γ) (rl:Option Nat) (K:gY→St→Option γ) (c1:List P.S41):∀ (k:Nat) (v2:List Int) (v3:Int),fQ.C.lK 0 93 2 Tryz.f93 YK rl 0 k (fQ.l1.p.mk' [.l .sp c1,.l (.int .i64) v2,.i v3]) K=fQ.l1 (fun y1=>K (.exit 2) (fQ.l1.q0.mk' [.l (.int .i64) y1])) c1 k v2 v3:=by
  intro k;induction k with
  | zero=>intros;rfl
  | succ k ih =>
    intros v2 v3
    exact (show fQ.C.lK 0 93 2 Tryz.f93 YK rl 0 (k+1) (fQ.l1.p.mk' [.l .sp c1,.l (.int .i64) v2,.i v3]) K=fQ.l1T (fun v2 v3=>fQ.C.lK 0 93 2 Tryz.f93 YK rl 0 k (fQ.l1.p.mk' [.l .sp c1,.l (.int .i64) v2,.i v3]) K) (fun y1=>K (.exit 2) (fQ.l1.q0.mk' [.l (.int .i64) y1])) c1 k v2 v3 by kernel_rfl).trans (by
      rw [show (fun v2 v3=>fQ.C.lK 0 93 2 Tryz.f93 YK rl 0 k (fQ.l1.p.mk' [.l .sp c1,.l (.int .i64) v2,.i v3]) K)=fQ.l1 (fun y1=>K (.exit 2) (fQ.l1.q0.mk' [.l (.int .i64) y1])) c1 k from by exact funext fun v2=>funext fun v3=>ih v2 v3];rfl)
noncomputable def mI.m (k:Nat):Sm:=kE [(.int .i64),.bool,.bool] [.pl .bool] (fun a=>mI.f k a.1 a.2.1 a.2.2.1)
noncomputable def gX.m (k:Nat):Sm:=kE [(.sl 41 .sp),(.int .i64)] [.pl .bool] (fun a=>gX.f k a.1 a.2.1)
noncomputable def gX.E (k:Nat):kr:=⟨tL.tb,fun f=>lk f [],fun _=>false⟩
noncomputable def gX.l0.p:PS:=⟨[.one (.s .sp),.one (.i .i64)]++nOs 3++[.one (.i .i64)]++nOs 22,[]⟩
noncomputable def gX.l0.q0:PS:=⟨nOs 4++[.one (.lb true)]++nOs 23,[]⟩
noncomputable def gX.l0.q1:PS:=⟨nOs 28,[]⟩
noncomputable def gX.l0.g {γ:Type} (YK:HdK γ) (k:Nat) (K:gY→St→Option γ):List Lf→Option γ
  | [.l .sp c1,.i c2,.i v3]=>gX.l0 (K .ret (gX.l0.q0.mk' [])) (K (.exit 0) (gX.l0.q1.mk' [])) c1 c2 k v3
  | _=>none
noncomputable def gX.C {γ:Type}:Ctx γ:=⟨gX.E,[(95,Tryz.f95)],fun f=>(lk f [(95,⟨fun d=>jB d [],fun c=>lk c [(0,[0,1,5])],fun c=>lk c [(0,[4])],fun _=>none,fun _=>([],[])⟩)]).getD ⟨fun _=>false,fun _=>none,fun _=>none,fun _=>none,fun _=>([],[])⟩,[⟨0,95,0,j6 [(gX.l0.p,gX.l0.g)]⟩],[]⟩
theorem gX.l0.eq {γ:Type} (YK:HdK γ) (rl:Option Nat) (K:gY→St→Option γ) (c1:List P.S41) (c2:Int):∀ (k:Nat) (v3:Int),gX.C.lK 0 95 0 Tryz.f95 YK rl 0 k (gX.l0.p.mk' [.l .sp c1,.i c2,.i v3]) K=gX.l0 (K .ret (gX.l0.q0.mk' [])) (K (.exit 0) (gX.l0.q1.mk' [])) c1 c2 k v3:=by
  intro k;induction k with
  | zero=>intros;rfl
  | succ k ih =>
    intros v3
    exact (show gX.C.lK 0 95 0 Tryz.f95 YK rl 0 (k+1) (gX.l0.p.mk' [.l .sp c1,.i c2,.i v3]) K=gX.l0T (fun v3=>gX.C.lK 0 95 0 Tryz.f95 YK rl 0 k (gX.l0.p.mk' [.l .sp c1,.i c2,.i v3]) K) (K .ret (gX.l0.q0.mk' [])) (K (.exit 0) (gX.l0.q1.mk' [])) c1 c2 k v3 by kernel_rfl).trans (by
      rw [show (fun v3=>gX.C.lK 0 95 0 Tryz.f95 YK rl 0 k (gX.l0.p.mk' [.l .sp c1,.i c2,.i v3]) K)=gX.l0 (K .ret (gX.l0.q0.mk' [])) (K (.exit 0) (gX.l0.q1.mk' [])) c1 c2 k from by exact funext fun v3=>ih v3];rfl)
noncomputable def iC.m (k:Nat):Sm:=kE [(.int .i64),(.sl 41 .sp),(.sl 41 .sp)] [.own 41 .sp] (fun a=>iC.f k a.1 a.2.1 a.2.2.1)
noncomputable def iC.E (k:Nat):kr:=⟨tL.tb,fun f=>lk f [(93,fQ.m k),(94,mI.m k),(95,gX.m k)],fun _=>false⟩
noncomputable def iC.l0.p:PS:=⟨[.one (.i .i64),.one (.s .sp),.one (.s .sp)]++nOs 4++[.one (.o 3 (.int .i64)),.one (.mu 41 .sp),.one (.i .i64)]++nOs 70,[]⟩
noncomputable def iC.l0.q0:PS:=⟨nOs 8++[.one (.mu 41 .sp)]++nOs 71,[]⟩
noncomputable def iC.l0.g {γ:Type} (YK:HdK γ) (k:Nat) (K:gY→St→Option γ):List Lf→Option γ
  | [.i c1,.l .sp c2,.l .sp c3,.l (.int .i64) c4,.l .sp v5,.i v6]=>iC.l0 (fun y1=>K (.exit 0) (iC.l0.q0.mk' [.l .sp y1])) c1 c2 c3 c4 k v5 v6
  | _=>none
noncomputable def iC.C {γ:Type}:Ctx γ:=⟨iC.E,[(57,Tryz.f57)],fun f=>(lk f [(57,⟨fun d=>jB d [65,79],fun c=>lk c [(0,[0,1,2,7,8,9])],fun c=>lk c [(0,[8])],fun _=>none,fun c=>(lk c [(3,[.mu (.tm 8)],[]),(7,[.op (.tm 8)],[.cl (.tm 8)]),(8,[.op (.tm 8)],[.cl (.tm 8)]),(10,[.fz (.tm 8)],[])]).getD ([],[])⟩)]).getD ⟨fun _=>false,fun _=>none,fun _=>none,fun _=>none,fun _=>([],[])⟩,[⟨0,57,0,j6 [(iC.l0.p,iC.l0.g)]⟩],[]⟩
theorem iC.l0.eq {γ:Type} (YK:HdK γ) (rl:Option Nat) (K:gY→St→Option γ) (c1:Int) (c2:List P.S41) (c3:List P.S41) (c4:List Int):∀ (k:Nat) (v5:List P.S41) (v6:Int),iC.C.lK 0 57 0 Tryz.f57 YK rl 0 k (iC.l0.p.mk' [.i c1,.l .sp c2,.l .sp c3,.l (.int .i64) c4,.l .sp v5,.i v6]) K=iC.l0 (fun y1=>K (.exit 0) (iC.l0.q0.mk' [.l .sp y1])) c1 c2 c3 c4 k v5 v6:=by
  intro k;induction k with
  | zero=>intros;rfl
  | succ k ih =>
    intros v5 v6
    exact (show iC.C.lK 0 57 0 Tryz.f57 YK rl 0 (k+1) (iC.l0.p.mk' [.i c1,.l .sp c2,.l .sp c3,.l (.int .i64) c4,.l .sp v5,.i v6]) K=iC.l0T (fun v5 v6=>iC.C.lK 0 57 0 Tryz.f57 YK rl 0 k (iC.l0.p.mk' [.i c1,.l .sp c2,.l .sp c3,.l (.int .i64) c4,.l .sp v5,.i v6]) K) (fun y1=>K (.exit 0) (iC.l0.q0.mk' [.l .sp y1])) c1 c2 c3 c4 k v5 v6 by kernel_rfl).trans (by
      rw [show (fun v5 v6=>iC.C.lK 0 57 0 Tryz.f57 YK rl 0 k (iC.l0.p.mk' [.i c1,.l .sp c2,.l .sp c3,.l (.int .i64) c4,.l .sp v5,.i v6]) K)=iC.l0 (fun y1=>K (.exit 0) (iC.l0.q0.mk' [.l .sp y1])) c1 c2 c3 c4 k from by exact funext fun v5=>funext fun v6=>ih v5 v6];rfl)
noncomputable def kV.m (k:Nat):Sm:=kE [.fm,(.int .i64),.sp] [.pl .bool] (fun a=>kV.f k a.1.f0 a.1.f1 a.1.f2 a.1.f3 a.2.1 a.2.2.1.f0 a.2.2.1.f1)
noncomputable def gU.m (k:Nat):Sm:=kE [(.sl 3 (.int .i64)),(.int .i64)] [.own 3 (.int .i64)] (fun a=>gU.f k a.1 a.2.1)
noncomputable def gU.E (k:Nat):kr:=⟨tL.tb,fun f=>lk f [],fun _=>false⟩
noncomputable def gU.l0.p:PS:=⟨[.one (.s (.int .i64)),.one (.i .i64)]++nOs 3++[.one (.o 3 (.int .i64)),.one (.b),.one (.i .i64)]++nOs 40,[]⟩
noncomputable def gU.l0.q0:PS:=⟨[nO,.one (.i .i64)]++nOs 3++[.one (.o 3 (.int .i64)),.one (.b)]++nOs 41,[]⟩
noncomputable def gU.l0.g {γ:Type} (YK:HdK γ) (k:Nat) (K:gY→St→Option γ):List Lf→Option γ
  | [.l (.int .i64) c1,.i c2,.l (.int .i64) v3,.b v4,.i v5]=>gU.l0 (fun y1 y2=>K (.exit 0) (gU.l0.q0.mk' [.i c2,.l (.int .i64) y1,.b y2])) c1 c2 k v3 v4 v5
  | _=>none
noncomputable def gU.C {γ:Type}:Ctx γ:=⟨gU.E,[(129,Tryz.f129)],fun f=>(lk f [(129,⟨fun d=>jB d [30,34,43,47],fun c=>lk c [(0,[0,1,5,6,7])],fun c=>lk c [(0,[1,5,6])],fun _=>none,fun _=>([],[])⟩)]).getD ⟨fun _=>false,fun _=>none,fun _=>none,fun _=>none,fun _=>([],[])⟩,[⟨0,129,0,j6 [(gU.l0.p,gU.l0.g)]⟩],[]⟩
theorem gU.l0.eq {γ:Type} (YK:HdK γ) (rl:Option Nat) (K:gY→St→Option γ) (c1:List Int) (c2:Int):∀ (k:Nat) (v3:List Int) (v4:Bool) (v5:Int),gU.C.lK 0 129 0 Tryz.f129 YK rl 0 k (gU.l0.p.mk' [.l (.int .i64) c1,.i c2,.l (.int .i64) v3,.b v4,.i v5]) K=gU.l0 (fun y1 y2=>K (.exit 0) (gU.l0.q0.mk' [.i c2,.l (.int .i64) y1,.b y2])) c1 c2 k v3 v4 v5:=by
  intro k;induction k with
  | zero=>intros;rfl
  | succ k ih =>
    intros v3 v4 v5
    exact (show gU.C.lK 0 129 0 Tryz.f129 YK rl 0 (k+1) (gU.l0.p.mk' [.l (.int .i64) c1,.i c2,.l (.int .i64) v3,.b v4,.i v5]) K=gU.l0T (fun v3 v4 v5=>gU.C.lK 0 129 0 Tryz.f129 YK rl 0 k (gU.l0.p.mk' [.l (.int .i64) c1,.i c2,.l (.int .i64) v3,.b v4,.i v5]) K) (fun y1 y2=>K (.exit 0) (gU.l0.q0.mk' [.i c2,.l (.int .i64) y1,.b y2])) c1 c2 k v3 v4 v5 by kernel_rfl).trans (by
      rw [show (fun v3 v4 v5=>gU.C.lK 0 129 0 Tryz.f129 YK rl 0 k (gU.l0.p.mk' [.l (.int .i64) c1,.i c2,.l (.int .i64) v3,.b v4,.i v5]) K)=gU.l0 (fun y1 y2=>K (.exit 0) (gU.l0.q0.mk' [.i c2,.l (.int .i64) y1,.b y2])) c1 c2 k from by exact funext fun v3=>funext fun v4=>funext fun v5=>ih v3 v4 v5];rfl)
noncomputable def fK.E (k:Nat):kr:=⟨tL.tb,fun f=>lk f [(127,kG.m k),(128,kV.m k),(129,gU.m k)],fun _=>false⟩
noncomputable def fK.l1.p:PS:=⟨[nO,nO,.one (.bp 0 0),.one (.bp 1 0),nO,.one (.o 3 (.int .i64)),.one (.i .i64)]++nOs 3++[.one (.i .i64),nO,.one (.i .i64)]++nOs 93,[.box 25 [.i .i64,.i .i64,.s (.sl 41 .sp),.s .gr],.box 41 [.i .i64,.i .i64]]⟩
noncomputable def fK.l1.q0:PS:=⟨[nO,nO,.one (.bp 0 0),.one (.bp 1 0),nO,.one (.o 3 (.int .i64)),.one (.i .i64)]++nOs 99,[.box 25 [.i .i64,.i .i64,.s (.sl 41 .sp),.s .gr],.box 41 [.i .i64,.i .i64]]⟩
noncomputable def fK.l1.g {γ:Type} (YK:HdK γ) (k:Nat) (K:gY→St→Option γ):List Lf→Option γ
  | [.l (.int .i64) v1,.i c2,.i c3,.i v4,.i c5,.i c6,.l (.sl 41 .sp) c7,.l .gr c8,.i c9,.i c10]=>fK.l1 (fun y1=>K (.exit 2) (fK.l1.q0.mk' [.l (.int .i64) y1,.i c2,.i c5,.i c6,.l (.sl 41 .sp) c7,.l .gr c8,.i c9,.i c10])) c2 c3 c5 c6 c7 c8 c9 c10 k v1 v4
  | _=>none
noncomputable def fK.l0.p:PS:=⟨[nO,nO,.one (.bp 0 0),.one (.bp 1 0),nO,.one (.o 3 (.int .i64)),.one (.i .i64)]++nOs 99,[.box 25 [.i .i64,.i .i64,.s (.sl 41 .sp),.s .gr],.box 41 [.i .i64,.i .i64]]⟩
noncomputable def fK.l0.q0:PS:=⟨[nO,nO,.one (.bp 0 0),.one (.bp 1 0),nO,.one (.o 3 (.int .i64))]++nOs 100,[.box 25 [.i .i64,.i .i64,.s (.sl 41 .sp),.s .gr],.box 41 [.i .i64,.i .i64]]⟩
noncomputable def fK.l0.g {γ:Type} (YK:HdK γ) (k:Nat) (K:gY→St→Option γ):List Lf→Option γ
  | [.l (.int .i64) v1,.i v2,.i c3,.i c4,.l (.sl 41 .sp) c5,.l .gr c6,.i c7,.i c8]=>fK.l0 (fun y1=>K (.exit 0) (fK.l0.q0.mk' [.l (.int .i64) y1,.i c3,.i c4,.l (.sl 41 .sp) c5,.l .gr c6,.i c7,.i c8])) c3 c4 c5 c6 c7 c8 k v1 v2
  | _=>none
noncomputable def fK.l2.p:PS:=⟨[nO,nO,.one (.bp 0 0),.one (.bp 1 0),nO,.one (.o 3 (.int .i64))]++nOs 7++[.one (.i .i64)]++nOs 92,[.box 25 [.i .i64,.i .i64,.s (.sl 41 .sp),.s .gr],.box 41 [.i .i64,.i .i64]]⟩
noncomputable def fK.l2.q0:PS:=⟨nOs 5++[.one (.o 3 (.int .i64))]++nOs 100,[.box 25 [.i .i64,.i .i64,.s (.sl 41 .sp),.s .gr],.box 41 [.i .i64,.i .i64]]⟩
noncomputable def fK.l2.g {γ:Type} (YK:HdK γ) (k:Nat) (K:gY→St→Option γ):List Lf→Option γ
  | [.l (.int .i64) v1,.i v2,.i c3,.i c4,.l (.sl 41 .sp) c5,.l .gr c6,.i c7,.i c8]=>fK.l2 (fun y1=>K (.exit 4) (fK.l2.q0.mk' [.l (.int .i64) y1,.i c3,.i c4,.l (.sl 41 .sp) c5,.l .gr c6,.i c7,.i c8])) c3 c4 c5 c6 c7 c8 k v1 v2
  | _=>none
noncomputable def fK.C {γ:Type}:Ctx γ:=⟨fK.E,[(92,Tryz.f92)],fun f=>(lk f [(92,⟨fun d=>jB d [105],fun c=>lk c [(0,[2,3,5,6]),(2,[2,3,5,6,10,12]),(4,[2,3,5,13])],fun c=>lk c [(0,[2,3,5]),(2,[2,3,5,6]),(4,[5])],fun _=>none,fun _=>([],[])⟩)]).getD ⟨fun _=>false,fun _=>none,fun _=>none,fun _=>none,fun _=>([],[])⟩,[⟨0,92,2,j6 [(fK.l1.p,fK.l1.g)]⟩,⟨0,92,0,j6 [(fK.l0.p,fK.l0.g)]⟩,⟨0,92,4,j6 [(fK.l2.p,fK.l2.g)]⟩],[]⟩
theorem fK.l1.eq {γ:Type} (YK:HdK γ) (rl:Option Nat) (K:gY→St→Option γ) (c2:Int) (c3:Int) (c5:Int) (c6:Int) (c7:List (List P.S41)) (c8:List P.S43) (c9:Int) (c10:Int):∀ (k:Nat) (v1:List Int) (v4:Int),fK.C.lK 0 92 2 Tryz.f92 YK rl 2 k (fK.l1.p.mk' [.l (.int .i64) v1,.i c2,.i c3,.i v4,.i c5,.i c6,.l (.sl 41 .sp) c7,.l .gr c8,.i c9,.i c10]) K=fK.l1 (fun y1=>K (.exit 2) (fK.l1.q0.mk' [.l (.int .i64) y1,.i c2,.i c5,.i c6,.l (.sl 41 .sp) c7,.l .gr c8,.i c9,.i c10])) c2 c3 c5 c6 c7 c8 c9 c10 k v1 v4:=by
  intro k;induction k with
  | zero=>intros;rfl
  | succ k ih =>
    intros v1 v4
    exact (show fK.C.lK 0 92 2 Tryz.f92 YK rl 2 (k+1) (fK.l1.p.mk' [.l (.int .i64) v1,.i c2,.i c3,.i v4,.i c5,.i c6,.l (.sl 41 .sp) c7,.l .gr c8,.i c9,.i c10]) K=fK.l1T (fun v1 v4=>fK.C.lK 0 92 2 Tryz.f92 YK rl 2 k (fK.l1.p.mk' [.l (.int .i64) v1,.i c2,.i c3,.i v4,.i c5,.i c6,.l (.sl 41 .sp) c7,.l .gr c8,.i c9,.i c10]) K) (fun y1=>K (.exit 2) (fK.l1.q0.mk' [.l (.int .i64) y1,.i c2,.i c5,.i c6,.l (.sl 41 .sp) c7,.l .gr c8,.i c9,.i c10])) c2 c3 c5 c6 c7 c8 c9 c10 k v1 v4 by kernel_rfl).trans (by
      rw [show (fun v1 v4=>fK.C.lK 0 92 2 Tryz.f92 YK rl 2 k (fK.l1.p.mk' [.l (.int .i64) v1,.i c2,.i c3,.i v4,.i c5,.i c6,.l (.sl 41 .sp) c7,.l .gr c8,.i c9,.i c10]) K)=fK.l1 (fun y1=>K (.exit 2) (fK.l1.q0.mk' [.l (.int .i64) y1,.i c2,.i c5,.i c6,.l (.sl 41 .sp) c7,.l .gr c8,.i c9,.i c10])) c2 c3 c5 c6 c7 c8 c9 c10 k from by exact funext fun v1=>funext fun v4=>ih v1 v4];rfl)
theorem fK.l0.eq {γ:Type} (YK:HdK γ) (rl:Option Nat) (K:gY→St→Option γ) (c3:Int) (c4:Int) (c5:List (List P.S41)) (c6:List P.S43) (c7:Int) (c8:Int):∀ (k:Nat) (v1:List Int) (v2:Int),fK.C.lK 0 92 0 Tryz.f92 YK rl 2 k (fK.l0.p.mk' [.l (.int .i64) v1,.i v2,.i c3,.i c4,.l (.sl 41 .sp) c5,.l .gr c6,.i c7,.i c8]) K=fK.l0 (fun y1=>K (.exit 0) (fK.l0.q0.mk' [.l (.int .i64) y1,.i c3,.i c4,.l (.sl 41 .sp) c5,.l .gr c6,.i c7,.i c8])) c3 c4 c5 c6 c7 c8 k v1 v2:=by
  intro k;induction k with
  | zero=>intros;rfl
  | succ k ih =>
    intros v1 v2
    exact (show fK.C.lK 0 92 0 Tryz.f92 YK rl 2 (k+1) (fK.l0.p.mk' [.l (.int .i64) v1,.i v2,.i c3,.i c4,.l (.sl 41 .sp) c5,.l .gr c6,.i c7,.i c8]) K=fK.l0T (fun v1 v2=>fK.C.lK 0 92 0 Tryz.f92 YK rl 2 k (fK.l0.p.mk' [.l (.int .i64) v1,.i v2,.i c3,.i c4,.l (.sl 41 .sp) c5,.l .gr c6,.i c7,.i c8]) K) (fun y1=>K (.exit 0) (fK.l0.q0.mk' [.l (.int .i64) y1,.i c3,.i c4,.l (.sl 41 .sp) c5,.l .gr c6,.i c7,.i c8])) c3 c4 c5 c6 c7 c8 k v1 v2 by kernel_rfl).trans (by
      rw [show (fun v1 v2=>fK.C.lK 0 92 0 Tryz.f92 YK rl 2 k (fK.l0.p.mk' [.l (.int .i64) v1,.i v2,.i c3,.i c4,.l (.sl 41 .sp) c5,.l .gr c6,.i c7,.i c8]) K)=fK.l0 (fun y1=>K (.exit 0) (fK.l0.q0.mk' [.l (.int .i64) y1,.i c3,.i c4,.l (.sl 41 .sp) c5,.l .gr c6,.i c7,.i c8])) c3 c4 c5 c6 c7 c8 k from by exact funext fun v1=>funext fun v2=>ih v1 v2];rfl)
theorem fK.l2.eq {γ:Type} (YK:HdK γ) (rl:Option Nat) (K:gY→St→Option γ) (c3:Int) (c4:Int) (c5:List (List P.S41)) (c6:List P.S43) (c7:Int) (c8:Int):∀ (k:Nat) (v1:List Int) (v2:Int),fK.C.lK 0 92 4 Tryz.f92 YK rl 2 k (fK.l2.p.mk' [.l (.int .i64) v1,.i v2,.i c3,.i c4,.l (.sl 41 .sp) c5,.l .gr c6,.i c7,.i c8]) K=fK.l2 (fun y1=>K (.exit 4) (fK.l2.q0.mk' [.l (.int .i64) y1,.i c3,.i c4,.l (.sl 41 .sp) c5,.l .gr c6,.i c7,.i c8])) c3 c4 c5 c6 c7 c8 k v1 v2:=by
  intro k;induction k with
  | zero=>intros;rfl
  | succ k ih =>
    intros v1 v2
    exact (show fK.C.lK 0 92 4 Tryz.f92 YK rl 2 (k+1) (fK.l2.p.mk' [.l (.int .i64) v1,.i v2,.i c3,.i c4,.l (.sl 41 .sp) c5,.l .gr c6,.i c7,.i c8]) K=fK.l2T (fun v1 v2=>fK.C.lK 0 92 4 Tryz.f92 YK rl 2 k (fK.l2.p.mk' [.l (.int .i64) v1,.i v2,.i c3,.i c4,.l (.sl 41 .sp) c5,.l .gr c6,.i c7,.i c8]) K) (fun y1=>K (.exit 4) (fK.l2.q0.mk' [.l (.int .i64) y1,.i c3,.i c4,.l (.sl 41 .sp) c5,.l .gr c6,.i c7,.i c8])) c3 c4 c5 c6 c7 c8 k v1 v2 by kernel_rfl).trans (by
      rw [show (fun v1 v2=>fK.C.lK 0 92 4 Tryz.f92 YK rl 2 k (fK.l2.p.mk' [.l (.int .i64) v1,.i v2,.i c3,.i c4,.l (.sl 41 .sp) c5,.l .gr c6,.i c7,.i c8]) K)=fK.l2 (fun y1=>K (.exit 4) (fK.l2.q0.mk' [.l (.int .i64) y1,.i c3,.i c4,.l (.sl 41 .sp) c5,.l .gr c6,.i c7,.i c8])) c3 c4 c5 c6 c7 c8 k from by exact funext fun v1=>funext fun v2=>ih v1 v2];rfl)
noncomputable def lX.m (k:Nat):Sm:=kE [.fm,(.sl 41 .sp)] [.own 3 (.int .i64)] (fun a=>lX.f k a.1.f0 a.1.f1 a.1.f2 a.1.f3 a.2.1)
noncomputable def kF.m (k:Nat):Sm:=kE [(.sl 41 .sp),(.sl 41 .sp)] [.pl .bool] (fun a=>kF.f k a.1 a.2.1)
end Go.Proofs.YtongeknogcboiaaGreat.R
