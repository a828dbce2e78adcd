/- Lemmas for laws of chapter 7: what the functions that they reach compute. No condition of its own. -/
import Derived.Test.YtongeknogcboiaaGreatYK9
import Derived.Test.YtongeknogcboiaaGreatYK12
import Derived.Test.YtongeknogcboiaaGreatYK13
import Derived.Test.YtongeknogcboiaaGreatYK19
import Derived.Test.YtongeknogcboiaaGreatYK14
import Derived.Test.YtongeknogcboiaaGreatYK15
import Derived.Test.YtongeknogcboiaaGreatYK8
import Derived.Test.YtongeknogcboiaaGreatYK2
import Derived.Deep.SlicePairs
import Derived.ChangeArms
import Derived.ProofKit
import Derived.Deep.Slices
namespace Go.Proofs.YtongeknogcboiaaGreat.R
open M Go.RowKit Go.Proofs.YtongeknogcboiaaGreatW.gy Go.Proofs.YtongeknogcboiaaGreatW.iE Go.Proofs.YtongeknogcboiaaGreatW.jh
set_option linter.unusedVariables false
noncomputable def iq.E (k:Nat):kr:=⟨tL.tb,fun f=>lk f [(54,kL.m k),(55,lX.m k),(56,kF.m k)],fun _=>false⟩
noncomputable def iq.l0.p:PS:=⟨nOs 4++[.one (.bp 1 0)]++nOs 3++[.one (.s .sp),nO,.one (.o 3 (.int .i64)),.one (.i .i64)]++nOs 35,[.box 25 [.i .i64,.i .i64,.s (.sl 41 .sp),.s .gr],.box 25 [.i .i64,.i .i64,.s (.sl 41 .sp),.s .gr]]⟩
noncomputable def iq.l0.q0:PS:=⟨nOs 6++[.one (.i .i64),.one (.lb true)]++nOs 39,[.box 25 [.i .i64,.i .i64,.s (.sl 41 .sp),.s .gr],.box 25 [.i .i64,.i .i64,.s (.sl 41 .sp),.s .gr]]⟩
noncomputable def iq.l0.q1:PS:=⟨nOs 47,[.box 25 [.i .i64,.i .i64,.s (.sl 41 .sp),.s .gr],.box 25 [.i .i64,.i .i64,.s (.sl 41 .sp),.s .gr]]⟩
noncomputable def iq.l0.g {γ:Type} (YK:HdK γ) (k:Nat) (K:gY→St→Option γ):List Lf→Option γ
  | [.l .sp c1,.l (.int .i64) c2,.i v3,.i c4,.i c5,.l (.sl 41 .sp) c6,.l .gr c7,.i c8,.i c9,.l (.sl 41 .sp) c10,.l .gr c11]=>iq.l0 (fun y1=>K .ret (iq.l0.q0.mk' [.i y1,.i c4,.i c5,.l (.sl 41 .sp) c6,.l .gr c7,.i c8,.i c9,.l (.sl 41 .sp) c10,.l .gr c11])) (K (.exit 0) (iq.l0.q1.mk' [.i c4,.i c5,.l (.sl 41 .sp) c6,.l .gr c7,.i c8,.i c9,.l (.sl 41 .sp) c10,.l .gr c11])) c1 c2 c4 c5 c6 c7 c8 c9 c10 c11 k v3
  | _=>none
noncomputable def iq.C {γ:Type}:Ctx γ:=⟨iq.E,[(23,Tryz.f23)],fun f=>(lk f [(23,⟨fun d=>jB d [],fun c=>lk c [(0,[4,8,10,11])],fun c=>lk c [(0,[6,7])],fun _=>none,fun _=>([],[])⟩)]).getD ⟨fun _=>false,fun _=>none,fun _=>none,fun _=>none,fun _=>([],[])⟩,[⟨0,23,0,j6 [(iq.l0.p,iq.l0.g)]⟩],[]⟩
theorem iq.l0.eq {γ:Type} (YK:HdK γ) (rl:Option Nat) (K:gY→St→Option γ) (c1:List P.S41) (c2:List Int) (c4:Int) (c5:Int) (c6:List (List P.S41)) (c7:List P.S43) (c8:Int) (c9:Int) (c10:List (List P.S41)) (c11:List P.S43):∀ (k:Nat) (v3:Int),iq.C.lK 0 23 0 Tryz.f23 YK rl 2 k (iq.l0.p.mk' [.l .sp c1,.l (.int .i64) c2,.i v3,.i c4,.i c5,.l (.sl 41 .sp) c6,.l .gr c7,.i c8,.i c9,.l (.sl 41 .sp) c10,.l .gr c11]) K=iq.l0 (fun y1=>K .ret (iq.l0.q0.mk' [.i y1,.i c4,.i c5,.l (.sl 41 .sp) c6,.l .gr c7,.i c8,.i c9,.l (.sl 41 .sp) c10,.l .gr c11])) (K (.exit 0) (iq.l0.q1.mk' [.i c4,.i c5,.l (.sl 41 .sp) c6,.l .gr c7,.i c8,.i c9,.l (.sl 41 .sp) c10,.l .gr c11])) c1 c2 c4 c5 c6 c7 c8 c9 c10 c11 k v3:=by
  intro k;induction k with
  | zero=>intros;rfl
  | succ k ih =>
    intros v3
    exact (show iq.C.lK 0 23 0 Tryz.f23 YK rl 2 (k+1) (iq.l0.p.mk' [.l .sp c1,.l (.int .i64) c2,.i v3,.i c4,.i c5,.l (.sl 41 .sp) c6,.l .gr c7,.i c8,.i c9,.l (.sl 41 .sp) c10,.l .gr c11]) K=iq.l0T (fun v3=>iq.C.lK 0 23 0 Tryz.f23 YK rl 2 k (iq.l0.p.mk' [.l .sp c1,.l (.int .i64) c2,.i v3,.i c4,.i c5,.l (.sl 41 .sp) c6,.l .gr c7,.i c8,.i c9,.l (.sl 41 .sp) c10,.l .gr c11]) K) (fun y1=>K .ret (iq.l0.q0.mk' [.i y1,.i c4,.i c5,.l (.sl 41 .sp) c6,.l .gr c7,.i c8,.i c9,.l (.sl 41 .sp) c10,.l .gr c11])) (K (.exit 0) (iq.l0.q1.mk' [.i c4,.i c5,.l (.sl 41 .sp) c6,.l .gr c7,.i c8,.i c9,.l (.sl 41 .sp) c10,.l .gr c11])) c1 c2 c4 c5 c6 c7 c8 c9 c10 c11 k v3 by kernel_rfl).trans (by
      rw [show (fun v3=>iq.C.lK 0 23 0 Tryz.f23 YK rl 2 k (iq.l0.p.mk' [.l .sp c1,.l (.int .i64) c2,.i v3,.i c4,.i c5,.l (.sl 41 .sp) c6,.l .gr c7,.i c8,.i c9,.l (.sl 41 .sp) c10,.l .gr c11]) K)=iq.l0 (fun y1=>K .ret (iq.l0.q0.mk' [.i y1,.i c4,.i c5,.l (.sl 41 .sp) c6,.l .gr c7,.i c8,.i c9,.l (.sl 41 .sp) c10,.l .gr c11])) (K (.exit 0) (iq.l0.q1.mk' [.i c4,.i c5,.l (.sl 41 .sp) c6,.l .gr c7,.i c8,.i c9,.l (.sl 41 .sp) c10,.l .gr c11])) c1 c2 c4 c5 c6 c7 c8 c9 c10 c11 k from by exact funext fun v3=>ih v3];rfl)
noncomputable def iL.E (k:Nat):kr:=⟨tL.tb,fun f=>lk f [(54,kL.m k),(55,lX.m k),(56,kF.m k),(57,iC.m k)],fun _=>false⟩
noncomputable def iL.l0.p:PS:=⟨[.one (.i .i64)]++nOs 5++[.one (.bp 1 0)]++nOs 4++[.one (.s .sp),nO,.one (.o 3 (.int .i64)),.one (.i .i64),.one (.i .i64),.one (.b),.one (.i .i64)]++nOs 60,[.box 25 [.i .i64,.i .i64,.s (.sl 41 .sp),.s .gr],.box 25 [.i .i64,.i .i64,.s (.sl 41 .sp),.s .gr]]⟩
noncomputable def iL.l0.q0:PS:=⟨nOs 14++[.one (.i .i64),.one (.i .i64),.one (.b)]++nOs 61,[.box 25 [.i .i64,.i .i64,.s (.sl 41 .sp),.s .gr],.box 25 [.i .i64,.i .i64,.s (.sl 41 .sp),.s .gr]]⟩
noncomputable def iL.l0.g {γ:Type} (YK:HdK γ) (k:Nat) (K:gY→St→Option γ):List Lf→Option γ
  | [.i c1,.l .sp c2,.l (.int .i64) c3,.i v4,.i v5,.b v6,.i v7,.i c8,.i c9,.l (.sl 41 .sp) c10,.l .gr c11,.i c12,.i c13,.l (.sl 41 .sp) c14,.l .gr c15]=>iL.l0 (fun y1 y2 y3=>K (.exit 0) (iL.l0.q0.mk' [.i y1,.i y2,.b y3,.i c8,.i c9,.l (.sl 41 .sp) c10,.l .gr c11,.i c12,.i c13,.l (.sl 41 .sp) c14,.l .gr c15])) c1 c2 c3 c8 c9 c10 c11 c12 c13 c14 c15 k v4 v5 v6 v7
  | _=>none
noncomputable def iL.C {γ:Type}:Ctx γ:=⟨iL.E,[(24,Tryz.f24)],fun f=>(lk f [(24,⟨fun d=>jB d [],fun c=>lk c [(0,[0,6,11,13,14,15,16,17])],fun c=>lk c [(0,[14,15,16])],fun _=>none,fun _=>([],[])⟩)]).getD ⟨fun _=>false,fun _=>none,fun _=>none,fun _=>none,fun _=>([],[])⟩,[⟨0,24,0,j6 [(iL.l0.p,iL.l0.g)]⟩],[]⟩
theorem iL.l0.eq {γ:Type} (YK:HdK γ) (rl:Option Nat) (K:gY→St→Option γ) (c1:Int) (c2:List P.S41) (c3:List Int) (c8:Int) (c9:Int) (c10:List (List P.S41)) (c11:List P.S43) (c12:Int) (c13:Int) (c14:List (List P.S41)) (c15:List P.S43):∀ (k:Nat) (v4:Int) (v5:Int) (v6:Bool) (v7:Int),iL.C.lK 0 24 0 Tryz.f24 YK rl 2 k (iL.l0.p.mk' [.i c1,.l .sp c2,.l (.int .i64) c3,.i v4,.i v5,.b v6,.i v7,.i c8,.i c9,.l (.sl 41 .sp) c10,.l .gr c11,.i c12,.i c13,.l (.sl 41 .sp) c14,.l .gr c15]) K=iL.l0 (fun y1 y2 y3=>K (.exit 0) (iL.l0.q0.mk' [.i y1,.i y2,.b y3,.i c8,.i c9,.l (.sl 41 .sp) c10,.l .gr c11,.i c12,.i c13,.l (.sl 41 .sp) c14,.l .gr c15])) c1 c2 c3 c8 c9 c10 c11 c12 c13 c14 c15 k v4 v5 v6 v7:=by
  intro k;induction k with
  | zero=>intros;rfl
  | succ k ih =>
    intros v4 v5 v6 v7
    exact (show iL.C.lK 0 24 0 Tryz.f24 YK rl 2 (k+1) (iL.l0.p.mk' [.i c1,.l .sp c2,.l (.int .i64) c3,.i v4,.i v5,.b v6,.i v7,.i c8,.i c9,.l (.sl 41 .sp) c10,.l .gr c11,.i c12,.i c13,.l (.sl 41 .sp) c14,.l .gr c15]) K=iL.l0T (fun v4 v5 v6 v7=>iL.C.lK 0 24 0 Tryz.f24 YK rl 2 k (iL.l0.p.mk' [.i c1,.l .sp c2,.l (.int .i64) c3,.i v4,.i v5,.b v6,.i v7,.i c8,.i c9,.l (.sl 41 .sp) c10,.l .gr c11,.i c12,.i c13,.l (.sl 41 .sp) c14,.l .gr c15]) K) (fun y1 y2 y3=>K (.exit 0) (iL.l0.q0.mk' [.i y1,.i y2,.b y3,.i c8,.i c9,.l (.sl 41 .sp) c10,.l .gr c11,.i c12,.i c13,.l (.sl 41 .sp) c14,.l .gr c15])) c1 c2 c3 c8 c9 c10 c11 c12 c13 c14 c15 k v4 v5 v6 v7 by kernel_rfl).trans (by
      rw [show (fun v4 v5 v6 v7=>iL.C.lK 0 24 0 Tryz.f24 YK rl 2 k (iL.l0.p.mk' [.i c1,.l .sp c2,.l (.int .i64) c3,.i v4,.i v5,.b v6,.i v7,.i c8,.i c9,.l (.sl 41 .sp) c10,.l .gr c11,.i c12,.i c13,.l (.sl 41 .sp) c14,.l .gr c15]) K)=iL.l0 (fun y1 y2 y3=>K (.exit 0) (iL.l0.q0.mk' [.i y1,.i y2,.b y3,.i c8,.i c9,.l (.sl 41 .sp) c10,.l .gr c11,.i c12,.i c13,.l (.sl 41 .sp) c14,.l .gr c15])) c1 c2 c3 c8 c9 c10 c11 c12 c13 c14 c15 k from by exact funext fun v4=>funext fun v5=>funext fun v6=>funext fun v7=>ih v4 v5 v6 v7];rfl)
noncomputable def l9.m (k:Nat):Sm:=kE [.fm] [.pl (.int .i64)] (fun a=>l9.f k a.1.f0 a.1.f1 a.1.f2 a.1.f3)
noncomputable def mg.m (k:Nat):Sm:=kE [.fm,(.int .i64)] [.pl .bool] (fun a=>mg.f k a.1.f0 a.1.f1 a.1.f2 a.1.f3 a.2.1)
noncomputable def gJ.E (k:Nat):kr:=⟨tL.tb,fun f=>lk f [(96,l9.m k),(97,mg.m k)],fun _=>false⟩
noncomputable def gJ.l0.p:PS:=⟨[nO,.one (.i .i64),.one (.i .i64),.one (.bp 0 0)]++nOs 4++[.one (.b),.one (.i .i64),.one (.i .i64)]++nOs 78,[.box 25 [.i .i64,.i .i64,.s (.sl 41 .sp),.s .gr]]⟩
noncomputable def gJ.l0.q0:PS:=⟨[nO,.one (.i .i64),.one (.i .i64),.one (.bp 0 0)]++nOs 4++[.one (.b),.one (.i .i64)]++nOs 79,[.box 25 [.i .i64,.i .i64,.s (.sl 41 .sp),.s .gr]]⟩
noncomputable def gJ.l0.g {γ:Type} (YK:HdK γ) (k:Nat) (K:gY→St→Option γ):List Lf→Option γ
  | [.i c1,.i c2,.b v3,.i v4,.i v5,.i c6,.i c7,.l (.sl 41 .sp) c8,.l .gr c9]=>gJ.l0 (fun y1 y2=>K (.exit 0) (gJ.l0.q0.mk' [.i c1,.i c2,.b y1,.i y2,.i c6,.i c7,.l (.sl 41 .sp) c8,.l .gr c9])) c1 c2 c6 c7 c8 c9 k v3 v4 v5
  | _=>none
noncomputable def gJ.l1.p:PS:=⟨[nO,.one (.i .i64),.one (.i .i64),.one (.bp 0 0)]++nOs 4++[.one (.b),.one (.i .i64),nO,nO,.one (.i .i64)]++nOs 76,[.box 25 [.i .i64,.i .i64,.s (.sl 41 .sp),.s .gr]]⟩
noncomputable def gJ.l1.q0:PS:=⟨nOs 8++[.one (.b),.one (.i .i64)]++nOs 79,[.box 25 [.i .i64,.i .i64,.s (.sl 41 .sp),.s .gr]]⟩
noncomputable def gJ.l1.g {γ:Type} (YK:HdK γ) (k:Nat) (K:gY→St→Option γ):List Lf→Option γ
  | [.i c1,.i c2,.b v3,.i v4,.i v5,.i c6,.i c7,.l (.sl 41 .sp) c8,.l .gr c9]=>gJ.l1 (fun y1 y2=>K (.exit 2) (gJ.l1.q0.mk' [.b y1,.i y2,.i c6,.i c7,.l (.sl 41 .sp) c8,.l .gr c9])) c1 c2 c6 c7 c8 c9 k v3 v4 v5
  | _=>none
noncomputable def gJ.C {γ:Type}:Ctx γ:=⟨gJ.E,[(58,Tryz.f58)],fun f=>(lk f [(58,⟨fun d=>jB d [],fun c=>lk c [(0,[1,2,3,8,9,10]),(2,[1,2,3,8,9,12])],fun c=>lk c [(0,[1,2,3,8,9]),(2,[8,9])],fun _=>none,fun _=>([],[])⟩)]).getD ⟨fun _=>false,fun _=>none,fun _=>none,fun _=>none,fun _=>([],[])⟩,[⟨0,58,0,j6 [(gJ.l0.p,gJ.l0.g)]⟩,⟨0,58,2,j6 [(gJ.l1.p,gJ.l1.g)]⟩],[]⟩
theorem gJ.l0.eq {γ:Type} (YK:HdK γ) (rl:Option Nat) (K:gY→St→Option γ) (c1:Int) (c2:Int) (c6:Int) (c7:Int) (c8:List (List P.S41)) (c9:List P.S43):∀ (k:Nat) (v3:Bool) (v4:Int) (v5:Int),gJ.C.lK 0 58 0 Tryz.f58 YK rl 1 k (gJ.l0.p.mk' [.i c1,.i c2,.b v3,.i v4,.i v5,.i c6,.i c7,.l (.sl 41 .sp) c8,.l .gr c9]) K=gJ.l0 (fun y1 y2=>K (.exit 0) (gJ.l0.q0.mk' [.i c1,.i c2,.b y1,.i y2,.i c6,.i c7,.l (.sl 41 .sp) c8,.l .gr c9])) c1 c2 c6 c7 c8 c9 k v3 v4 v5:=by
  intro k;induction k with
  | zero=>intros;rfl
  | succ k ih =>
    intros v3 v4 v5
    exact (show gJ.C.lK 0 58 0 Tryz.f58 YK rl 1 (k+1) (gJ.l0.p.mk' [.i c1,.i c2,.b v3,.i v4,.i v5,.i c6,.i c7,.l (.sl 41 .sp) c8,.l .gr c9]) K=gJ.l0T (fun v3 v4 v5=>gJ.C.lK 0 58 0 Tryz.f58 YK rl 1 k (gJ.l0.p.mk' [.i c1,.i c2,.b v3,.i v4,.i v5,.i c6,.i c7,.l (.sl 41 .sp) c8,.l .gr c9]) K) (fun y1 y2=>K (.exit 0) (gJ.l0.q0.mk' [.i c1,.i c2,.b y1,.i y2,.i c6,.i c7,.l (.sl 41 .sp) c8,.l .gr c9])) c1 c2 c6 c7 c8 c9 k v3 v4 v5 by kernel_rfl).trans (by
      rw [show (fun v3 v4 v5=>gJ.C.lK 0 58 0 Tryz.f58 YK rl 1 k (gJ.l0.p.mk' [.i c1,.i c2,.b v3,.i v4,.i v5,.i c6,.i c7,.l (.sl 41 .sp) c8,.l .gr c9]) K)=gJ.l0 (fun y1 y2=>K (.exit 0) (gJ.l0.q0.mk' [.i c1,.i c2,.b y1,.i y2,.i c6,.i c7,.l (.sl 41 .sp) c8,.l .gr c9])) c1 c2 c6 c7 c8 c9 k from by exact funext fun v3=>funext fun v4=>funext fun v5=>ih v3 v4 v5];rfl)
theorem gJ.l1.eq {γ:Type} (YK:HdK γ) (rl:Option Nat) (K:gY→St→Option γ) (c1:Int) (c2:Int) (c6:Int) (c7:Int) (c8:List (List P.S41)) (c9:List P.S43):∀ (k:Nat) (v3:Bool) (v4:Int) (v5:Int),gJ.C.lK 0 58 2 Tryz.f58 YK rl 1 k (gJ.l1.p.mk' [.i c1,.i c2,.b v3,.i v4,.i v5,.i c6,.i c7,.l (.sl 41 .sp) c8,.l .gr c9]) K=gJ.l1 (fun y1 y2=>K (.exit 2) (gJ.l1.q0.mk' [.b y1,.i y2,.i c6,.i c7,.l (.sl 41 .sp) c8,.l .gr c9])) c1 c2 c6 c7 c8 c9 k v3 v4 v5:=by
  intro k;induction k with
  | zero=>intros;rfl
  | succ k ih =>
    intros v3 v4 v5
    exact (show gJ.C.lK 0 58 2 Tryz.f58 YK rl 1 (k+1) (gJ.l1.p.mk' [.i c1,.i c2,.b v3,.i v4,.i v5,.i c6,.i c7,.l (.sl 41 .sp) c8,.l .gr c9]) K=gJ.l1T (fun v3 v4 v5=>gJ.C.lK 0 58 2 Tryz.f58 YK rl 1 k (gJ.l1.p.mk' [.i c1,.i c2,.b v3,.i v4,.i v5,.i c6,.i c7,.l (.sl 41 .sp) c8,.l .gr c9]) K) (fun y1 y2=>K (.exit 2) (gJ.l1.q0.mk' [.b y1,.i y2,.i c6,.i c7,.l (.sl 41 .sp) c8,.l .gr c9])) c1 c2 c6 c7 c8 c9 k v3 v4 v5 by kernel_rfl).trans (by
      rw [show (fun v3 v4 v5=>gJ.C.lK 0 58 2 Tryz.f58 YK rl 1 k (gJ.l1.p.mk' [.i c1,.i c2,.b v3,.i v4,.i v5,.i c6,.i c7,.l (.sl 41 .sp) c8,.l .gr c9]) K)=gJ.l1 (fun y1 y2=>K (.exit 2) (gJ.l1.q0.mk' [.b y1,.i y2,.i c6,.i c7,.l (.sl 41 .sp) c8,.l .gr c9])) c1 c2 c6 c7 c8 c9 k from by exact funext fun v3=>funext fun v4=>funext fun v5=>ih v3 v4 v5];rfl)
noncomputable def jS.m (k:Nat):Sm:=kE [.fm,(.int .i64)] [.pl (.int .i64),.pl .bool] (fun a=>jS.f k a.1.f0 a.1.f1 a.1.f2 a.1.f3 a.2.1)
noncomputable def jS.E (k:Nat):kr:=⟨tL.tb,fun f=>lk f [(59,jW.m k),(61,iU.m k)],fun _=>false⟩
noncomputable def jS.C {γ:Type}:Ctx γ:=⟨jS.E,[(30,Tryz.f30)],fun f=>(lk f [(30,⟨fun d=>jB d [],fun c=>lk c [],fun c=>lk c [],fun _=>none,fun _=>([],[])⟩)]).getD ⟨fun _=>false,fun _=>none,fun _=>none,fun _=>none,fun _=>([],[])⟩,[],[]⟩
theorem jS.jk {γ:Type}:(jS.C (γ:=γ)).Ok:=⟨(all_cons (fun k=>by kernel_rfl) all_nil),(all_cons (by kernel_rfl) all_nil),all_nil⟩
theorem jS.eq (k:Nat) (aa:Int) (ab:Int) (ac:List (List P.S41)) (af:List P.S43) (a1:Int):jS.C.bK 0 30 Tryz.f30 k (iQ [.fm,(.int .i64)] (⟨aa,ab,ac,af⟩,a1,())) (K0 [.pl (.int .i64),.pl .bool])=jS.f k aa ab ac af a1:=by kernel_rfl
theorem jS.ok (k:Nat):kM Tryz.prog 30 (jS.m k).s:=iG (C:=jS.C) jS.jk (n:=0) (fn:=Tryz.f30) mixed (fun _=>jL) nw0 (fun k=>iM (all_cons (jW.ok k) (all_cons (iU.ok k) (all_nil)))) (all_cons ⟨Tryz.func30,by kernel_rfl⟩ all_nil) all_nil (by kernel_rfl) (by kernel_rfl) (fun ⟨⟨aa,ab,ac,af⟩,a1,_⟩ x h=>⟨k,(jS.eq k aa ab ac af a1).trans h⟩)
noncomputable def iH.E (k:Nat):kr:=⟨tL.tb,fun f=>lk f [],fun _=>false⟩
noncomputable def iH.l0.p:PS:=⟨[nO,.one (.s .sp)]++nOs 10++[.one (.s .sp),.one (.i .i64),.one (.i .i64)]++nOs 11,[]⟩
noncomputable def iH.l0.q0:PS:=⟨nOs 4++[.one (.lb false)]++nOs 21,[]⟩
noncomputable def iH.l0.q1:PS:=⟨nOs 26,[]⟩
noncomputable def iH.l0.g {γ:Type} (YK:HdK γ) (k:Nat) (K:gY→St→Option γ):List Lf→Option γ
  | [.l .sp c1,.l .sp c2,.i c3,.i v4]=>iH.l0 (K .ret (iH.l0.q0.mk' [])) (K (.exit 0) (iH.l0.q1.mk' [])) c1 c2 c3 k v4
  | _=>none
noncomputable def iH.C {γ:Type}:Ctx γ:=⟨iH.E,[(62,Tryz.f62)],fun f=>(lk f [(62,⟨fun d=>jB d [],fun c=>lk c [(0,[1,12,13,14])],fun c=>lk c [(0,[4])],fun _=>none,fun _=>([],[])⟩)]).getD ⟨fun _=>false,fun _=>none,fun _=>none,fun _=>none,fun _=>([],[])⟩,[⟨0,62,0,j6 [(iH.l0.p,iH.l0.g)]⟩],[]⟩
theorem iH.l0.eq {γ:Type} (YK:HdK γ) (rl:Option Nat) (K:gY→St→Option γ) (c1:List P.S41) (c2:List P.S41) (c3:Int):∀ (k:Nat) (v4:Int),iH.C.lK 0 62 0 Tryz.f62 YK rl 0 k (iH.l0.p.mk' [.l .sp c1,.l .sp c2,.i c3,.i v4]) K=iH.l0 (K .ret (iH.l0.q0.mk' [])) (K (.exit 0) (iH.l0.q1.mk' [])) c1 c2 c3 k v4:=by
  intro k;induction k with
  | zero=>intros;rfl
  | succ k ih =>
    intros v4
    exact (show iH.C.lK 0 62 0 Tryz.f62 YK rl 0 (k+1) (iH.l0.p.mk' [.l .sp c1,.l .sp c2,.i c3,.i v4]) K=iH.l0T (fun v4=>iH.C.lK 0 62 0 Tryz.f62 YK rl 0 k (iH.l0.p.mk' [.l .sp c1,.l .sp c2,.i c3,.i v4]) K) (K .ret (iH.l0.q0.mk' [])) (K (.exit 0) (iH.l0.q1.mk' [])) c1 c2 c3 k v4 by kernel_rfl).trans (by
      rw [show (fun v4=>iH.C.lK 0 62 0 Tryz.f62 YK rl 0 k (iH.l0.p.mk' [.l .sp c1,.l .sp c2,.i c3,.i v4]) K)=iH.l0 (K .ret (iH.l0.q0.mk' [])) (K (.exit 0) (iH.l0.q1.mk' [])) c1 c2 c3 k from by exact funext fun v4=>ih v4];rfl)
end Go.Proofs.YtongeknogcboiaaGreat.R
namespace Go.Proofs.YtongeknogcboiaaGreat.R
open M Go.RowKit Go.Proofs.YtongeknogcboiaaGreatW.gy Go.Proofs.YtongeknogcboiaaGreatW.iE Go.Proofs.YtongeknogcboiaaGreatW.jh
set_option linter.unusedVariables false
noncomputable def fq.m (k:Nat):Sm:=kE [.fm,(.int .i64)] [.pl .bool] (fun a=>fq.f k a.1.f0 a.1.f1 a.1.f2 a.1.f3 a.2.1)
noncomputable def fq.E (k:Nat):kr:=⟨tL.tb,fun f=>lk f [(9,iO.m k),(10,fO.m k),(11,iW.m k),(26,jo.m k),(28,jN.m k),(30,jS.m k)],fun _=>false⟩
noncomputable def fq.l2.p:PS:=⟨[nO,nO,.one (.bp 0 0)]++nOs 148,[.box 25 [.i .i64,.i .i64,.s (.sl 41 .sp),.s .gr],.box 41 [.i .i64,.i .i64]]⟩
noncomputable def fq.l2.q0:PS:=⟨nOs 4++[.one (.b)]++nOs 146,[.box 25 [.i .i64,.i .i64,.s (.sl 41 .sp),.s .gr],.box 41 [.i .i64,.i .i64]]⟩
noncomputable def fq.l2.q1:PS:=⟨nOs 4++[.one (.lb false)]++nOs 146,[.box 25 [.i .i64,.i .i64,.s (.sl 41 .sp),.s .gr],.box 41 [.i .i64,.i .i64]]⟩
noncomputable def fq.l2.g {γ:Type} (YK:HdK γ) (k:Nat) (K:gY→St→Option γ):List Lf→Option γ
  | [.i v1,.i v2,.l (.sl 41 .sp) v3,.l .gr v4,.i v5,.i v6]=>fq.l2 (fun y1 y2 y3 y4 y5 y6 y7=>K .ret (fq.l2.q0.mk' [.b y1,.i y2,.i y3,.l (.sl 41 .sp) y4,.l .gr y5,.i y6,.i y7])) (fun y1 y2 y3 y4 y5 y6=>K .ret (fq.l2.q1.mk' [.i y1,.i y2,.l (.sl 41 .sp) y3,.l .gr y4,.i y5,.i y6]))  k v1 v2 v3 v4 v5 v6
  | _=>none
noncomputable def fq.l1.p:PS:=⟨[nO,.one (.i .i64),.one (.bp 0 0)]++nOs 148,[.box 25 [.i .i64,.i .i64,.s (.sl 41 .sp),.s .gr],.box 41 [.i .i64,.i .i64]]⟩
noncomputable def fq.l1.q0:PS:=⟨nOs 4++[.one (.lb false)]++nOs 146,[.box 25 [.i .i64,.i .i64,.s (.sl 41 .sp),.s .gr],.box 41 [.i .i64,.i .i64]]⟩
noncomputable def fq.l1.q1:PS:=⟨nOs 4++[.one (.b)]++nOs 146,[.box 25 [.i .i64,.i .i64,.s (.sl 41 .sp),.s .gr],.box 41 [.i .i64,.i .i64]]⟩
noncomputable def fq.l1.g {γ:Type} (YK:HdK γ) (k:Nat) (K:gY→St→Option γ):List Lf→Option γ
  | [.i v1,.i v2,.i v3,.l (.sl 41 .sp) v4,.l .gr v5,.i v6,.i v7]=>fq.l1 (fun y1 y2 y3 y4 y5 y6=>K .ret (fq.l1.q0.mk' [.i y1,.i y2,.l (.sl 41 .sp) y3,.l .gr y4,.i y5,.i y6])) (fun y1 y2 y3 y4 y5 y6 y7=>K .ret (fq.l1.q1.mk' [.b y1,.i y2,.i y3,.l (.sl 41 .sp) y4,.l .gr y5,.i y6,.i y7]))  k v1 v2 v3 v4 v5 v6 v7
  | _=>none
noncomputable def fq.l4.p:PS:=⟨[nO,nO,.one (.bp 0 0)]++nOs 148,[.box 25 [.i .i64,.i .i64,.s (.sl 41 .sp),.s .gr]]⟩
noncomputable def fq.l4.q0:PS:=⟨nOs 4++[.one (.b)]++nOs 146,[.box 25 [.i .i64,.i .i64,.s (.sl 41 .sp),.s .gr]]⟩
noncomputable def fq.l4.q1:PS:=⟨nOs 4++[.one (.lb false)]++nOs 146,[.box 25 [.i .i64,.i .i64,.s (.sl 41 .sp),.s .gr]]⟩
noncomputable def fq.l4.g {γ:Type} (YK:HdK γ) (k:Nat) (K:gY→St→Option γ):List Lf→Option γ
  | [.i v1,.i v2,.l (.sl 41 .sp) v3,.l .gr v4]=>fq.l4 (fun y1 y2 y3 y4 y5=>K .ret (fq.l4.q0.mk' [.b y1,.i y2,.i y3,.l (.sl 41 .sp) y4,.l .gr y5])) (fun y1 y2 y3 y4=>K .ret (fq.l4.q1.mk' [.i y1,.i y2,.l (.sl 41 .sp) y3,.l .gr y4]))  k v1 v2 v3 v4
  | _=>none
noncomputable def fq.l3.p:PS:=⟨[nO,.one (.i .i64),.one (.bp 0 0)]++nOs 148,[.box 25 [.i .i64,.i .i64,.s (.sl 41 .sp),.s .gr]]⟩
noncomputable def fq.l3.q0:PS:=⟨nOs 4++[.one (.lb false)]++nOs 146,[.box 25 [.i .i64,.i .i64,.s (.sl 41 .sp),.s .gr]]⟩
noncomputable def fq.l3.q1:PS:=⟨nOs 4++[.one (.b)]++nOs 146,[.box 25 [.i .i64,.i .i64,.s (.sl 41 .sp),.s .gr]]⟩
noncomputable def fq.l3.g {γ:Type} (YK:HdK γ) (k:Nat) (K:gY→St→Option γ):List Lf→Option γ
  | [.i v1,.i v2,.i v3,.l (.sl 41 .sp) v4,.l .gr v5]=>fq.l3 (fun y1 y2 y3 y4=>K .ret (fq.l3.q0.mk' [.i y1,.i y2,.l (.sl 41 .sp) y3,.l .gr y4])) (fun y1 y2 y3 y4 y5=>K .ret (fq.l3.q1.mk' [.b y1,.i y2,.i y3,.l (.sl 41 .sp) y4,.l .gr y5]))  k v1 v2 v3 v4 v5
  | _=>none
noncomputable def fq.l0.p:PS:=⟨[nO,.one (.i .i64),.one (.bp 0 0),nO,nO,.one (.i .i64),.one (.b)]++nOs 144,[.box 25 [.i .i64,.i .i64,.s (.sl 41 .sp),.s .gr]]⟩
noncomputable def fq.l0.q0:PS:=⟨nOs 4++[.one (.lb false)]++nOs 146,[.box 25 [.i .i64,.i .i64,.s (.sl 41 .sp),.s .gr],.box 41 [.i .i64,.i .i64]]⟩
noncomputable def fq.l0.q1:PS:=⟨nOs 4++[.one (.b)]++nOs 146,[.box 25 [.i .i64,.i .i64,.s (.sl 41 .sp),.s .gr],.box 41 [.i .i64,.i .i64]]⟩
noncomputable def fq.l0.q2:PS:=⟨nOs 4++[.one (.lb false)]++nOs 146,[.box 25 [.i .i64,.i .i64,.s (.sl 41 .sp),.s .gr]]⟩
noncomputable def fq.l0.q3:PS:=⟨nOs 4++[.one (.b)]++nOs 146,[.box 25 [.i .i64,.i .i64,.s (.sl 41 .sp),.s .gr]]⟩
noncomputable def fq.l0.g {γ:Type} (YK:HdK γ) (k:Nat) (K:gY→St→Option γ):List Lf→Option γ
  | [.i v1,.i v2,.b v3,.i v4,.i v5,.l (.sl 41 .sp) v6,.l .gr v7]=>fq.l0 (fun y1 y2 y3 y4 y5 y6=>K .ret (fq.l0.q0.mk' [.i y1,.i y2,.l (.sl 41 .sp) y3,.l .gr y4,.i y5,.i y6])) (fun y1 y2 y3 y4 y5 y6 y7=>K .ret (fq.l0.q1.mk' [.b y1,.i y2,.i y3,.l (.sl 41 .sp) y4,.l .gr y5,.i y6,.i y7])) (fun y1 y2 y3 y4=>K .ret (fq.l0.q2.mk' [.i y1,.i y2,.l (.sl 41 .sp) y3,.l .gr y4])) (fun y1 y2 y3 y4 y5=>K .ret (fq.l0.q3.mk' [.b y1,.i y2,.i y3,.l (.sl 41 .sp) y4,.l .gr y5]))  k v1 v2 v3 v4 v5 v6 v7
  | _=>none
noncomputable def fq.C {γ:Type}:Ctx γ:=⟨fq.E,[(7,Tryz.f7)],fun f=>(lk f [(7,⟨fun d=>jB d [],fun c=>lk c [(1000022,[1,2,5,6]),(1000037,[1,2]),(1000049,[2])],fun c=>lk c [(1000022,[4]),(1000037,[4]),(1000049,[4])],fun _=>none,fun _=>([],[])⟩)]).getD ⟨fun _=>false,fun _=>none,fun _=>none,fun _=>none,fun _=>([],[])⟩,[⟨0,7,1000049,j6 [(fq.l2.p,fq.l2.g),(fq.l4.p,fq.l4.g)]⟩,⟨0,7,1000037,j6 [(fq.l1.p,fq.l1.g),(fq.l3.p,fq.l3.g)]⟩,⟨0,7,1000022,j6 [(fq.l0.p,fq.l0.g)]⟩],[]⟩
theorem fq.l2.eq {γ:Type} (YK:HdK γ) (rl:Option Nat) (K:gY→St→Option γ) (k:Nat) (v1:Int) (v2:Int) (v3:List (List P.S41)) (v4:List P.S43) (v5:Int) (v6:Int):fq.C.lK 0 7 1000049 Tryz.f7 YK rl 2 k (fq.l2.p.mk' [.i v1,.i v2,.l (.sl 41 .sp) v3,.l .gr v4,.i v5,.i v6]) K=fq.l2 (fun y1 y2 y3 y4 y5 y6 y7=>K .ret (fq.l2.q0.mk' [.b y1,.i y2,.i y3,.l (.sl 41 .sp) y4,.l .gr y5,.i y6,.i y7])) (fun y1 y2 y3 y4 y5 y6=>K .ret (fq.l2.q1.mk' [.i y1,.i y2,.l (.sl 41 .sp) y3,.l .gr y4,.i y5,.i y6])) k v1 v2 v3 v4 v5 v6:=by kernel_rfl
theorem fq.l1.eq {γ:Type} (YK:HdK γ) (rl:Option Nat) (K:gY→St→Option γ) (k:Nat) (v1:Int) (v2:Int) (v3:Int) (v4:List (List P.S41)) (v5:List P.S43) (v6:Int) (v7:Int):fq.C.lK 0 7 1000037 Tryz.f7 YK rl 2 k (fq.l1.p.mk' [.i v1,.i v2,.i v3,.l (.sl 41 .sp) v4,.l .gr v5,.i v6,.i v7]) K=fq.l1 (fun y1 y2 y3 y4 y5 y6=>K .ret (fq.l1.q0.mk' [.i y1,.i y2,.l (.sl 41 .sp) y3,.l .gr y4,.i y5,.i y6])) (fun y1 y2 y3 y4 y5 y6 y7=>K .ret (fq.l1.q1.mk' [.b y1,.i y2,.i y3,.l (.sl 41 .sp) y4,.l .gr y5,.i y6,.i y7])) k v1 v2 v3 v4 v5 v6 v7:=by kernel_rfl
theorem fq.l4.eq {γ:Type} (YK:HdK γ) (rl:Option Nat) (K:gY→St→Option γ) (k:Nat) (v1:Int) (v2:Int) (v3:List (List P.S41)) (v4:List P.S43):fq.C.lK 0 7 1000049 Tryz.f7 YK rl 1 k (fq.l4.p.mk' [.i v1,.i v2,.l (.sl 41 .sp) v3,.l .gr v4]) K=fq.l4 (fun y1 y2 y3 y4 y5=>K .ret (fq.l4.q0.mk' [.b y1,.i y2,.i y3,.l (.sl 41 .sp) y4,.l .gr y5])) (fun y1 y2 y3 y4=>K .ret (fq.l4.q1.mk' [.i y1,.i y2,.l (.sl 41 .sp) y3,.l .gr y4])) k v1 v2 v3 v4:=by kernel_rfl
theorem fq.l3.eq {γ:Type} (YK:HdK γ) (rl:Option Nat) (K:gY→St→Option γ) (k:Nat) (v1:Int) (v2:Int) (v3:Int) (v4:List (List P.S41)) (v5:List P.S43):fq.C.lK 0 7 1000037 Tryz.f7 YK rl 1 k (fq.l3.p.mk' [.i v1,.i v2,.i v3,.l (.sl 41 .sp) v4,.l .gr v5]) K=fq.l3 (fun y1 y2 y3 y4=>K .ret (fq.l3.q0.mk' [.i y1,.i y2,.l (.sl 41 .sp) y3,.l .gr y4])) (fun y1 y2 y3 y4 y5=>K .ret (fq.l3.q1.mk' [.b y1,.i y2,.i y3,.l (.sl 41 .sp) y4,.l .gr y5])) k v1 v2 v3 v4 v5:=by kernel_rfl
theorem fq.l0.eq {γ:Type} (YK:HdK γ) (rl:Option Nat) (K:gY→St→Option γ) (k:Nat) (v1:Int) (v2:Int) (v3:Bool) (v4:Int) (v5:Int) (v6:List (List P.S41)) (v7:List P.S43):fq.C.lK 0 7 1000022 Tryz.f7 YK rl 1 k (fq.l0.p.mk' [.i v1,.i v2,.b v3,.i v4,.i v5,.l (.sl 41 .sp) v6,.l .gr v7]) K=fq.l0 (fun y1 y2 y3 y4 y5 y6=>K .ret (fq.l0.q0.mk' [.i y1,.i y2,.l (.sl 41 .sp) y3,.l .gr y4,.i y5,.i y6])) (fun y1 y2 y3 y4 y5 y6 y7=>K .ret (fq.l0.q1.mk' [.b y1,.i y2,.i y3,.l (.sl 41 .sp) y4,.l .gr y5,.i y6,.i y7])) (fun y1 y2 y3 y4=>K .ret (fq.l0.q2.mk' [.i y1,.i y2,.l (.sl 41 .sp) y3,.l .gr y4])) (fun y1 y2 y3 y4 y5=>K .ret (fq.l0.q3.mk' [.b y1,.i y2,.i y3,.l (.sl 41 .sp) y4,.l .gr y5])) k v1 v2 v3 v4 v5 v6 v7:=by kernel_rfl
theorem fq.jk {γ:Type}:(fq.C (γ:=γ)).Ok:=⟨(all_cons (fun k=>by kernel_rfl) all_nil),(all_cons (by kernel_rfl) all_nil),all_nil⟩
theorem fq.e0 {γ:Type}:ku (fq.C (γ:=γ)) ⟨0,7,1000049,j6 [(fq.l2.p,fq.l2.g),(fq.l4.p,fq.l4.g)]⟩:=fq.jk.lpE [] (show lk 7 (fq.C (γ:=γ)).fl=some Tryz.f7 by kernel_rfl) (by kernel_rfl) (by kernel_rfl) (all_cons (fun h=>(Bool.false_ne_true (show false=true from h)).elim) (all_cons (fun h=>(Bool.false_ne_true (show false=true from h)).elim) (all_cons (fun h=>(Bool.false_ne_true (show false=true from h)).elim) all_nil))) (all_cons (fun YK rl k ls K v hv=>(show fq.l2.g YK k K ls=some v→_ from fun hv=>by
  unfold fq.l2.g at hv;split at hv
  · exact (fq.l2.eq YK rl K _ _ _ _ _ _ _).trans hv
  · cases hv) hv) (all_cons (fun YK rl k ls K v hv=>(show fq.l4.g YK k K ls=some v→_ from fun hv=>by
  unfold fq.l4.g at hv;split at hv
  · exact (fq.l4.eq YK rl K _ _ _ _ _).trans hv
  · cases hv) hv) all_nil))
theorem fq.e1 {γ:Type}:ku (fq.C (γ:=γ)) ⟨0,7,1000037,j6 [(fq.l1.p,fq.l1.g),(fq.l3.p,fq.l3.g)]⟩:=fq.jk.lpE [1000049] (show lk 7 (fq.C (γ:=γ)).fl=some Tryz.f7 by kernel_rfl) (by kernel_rfl) (by kernel_rfl) (all_cons (fun _=>fq.e0) (all_cons (fun h=>(Bool.false_ne_true (show false=true from h)).elim) (all_cons (fun h=>(Bool.false_ne_true (show false=true from h)).elim) all_nil))) (all_cons (fun YK rl k ls K v hv=>(show fq.l1.g YK k K ls=some v→_ from fun hv=>by
  unfold fq.l1.g at hv;split at hv
  · exact (fq.l1.eq YK rl K _ _ _ _ _ _ _ _).trans hv
  · cases hv) hv) (all_cons (fun YK rl k ls K v hv=>(show fq.l3.g YK k K ls=some v→_ from fun hv=>by
  unfold fq.l3.g at hv;split at hv
  · exact (fq.l3.eq YK rl K _ _ _ _ _ _).trans hv
  · cases hv) hv) all_nil))
theorem fq.e2 {γ:Type}:ku (fq.C (γ:=γ)) ⟨0,7,1000022,j6 [(fq.l0.p,fq.l0.g)]⟩:=fq.jk.lpE [1000037,1000049] (show lk 7 (fq.C (γ:=γ)).fl=some Tryz.f7 by kernel_rfl) (by kernel_rfl) (by kernel_rfl) (all_cons (fun _=>fq.e0) (all_cons (fun _=>fq.e1) (all_cons (fun h=>(Bool.false_ne_true (show false=true from h)).elim) all_nil))) (all_cons (fun YK rl k ls K v hv=>(show fq.l0.g YK k K ls=some v→_ from fun hv=>by
  unfold fq.l0.g at hv;split at hv
  · exact (fq.l0.eq YK rl K _ _ _ _ _ _ _ _).trans hv
  · cases hv) hv) all_nil)
theorem fq.eq (k:Nat) (aa:Int) (ab:Int) (ac:List (List P.S41)) (af:List P.S43) (a1:Int):fq.C.bK 0 7 Tryz.f7 k (iQ [.fm,(.int .i64)] (⟨aa,ab,ac,af⟩,a1,())) (K0 [.pl .bool])=fq.f k aa ab ac af a1:=by kernel_rfl
theorem fq.ok (k:Nat):kM Tryz.prog 7 (fq.m k).s:=iG (C:=fq.C) fq.jk (n:=0) (fn:=Tryz.f7) mixed (fun _=>jL) nw0 (fun k=>iM (all_cons (iO.ok k) (all_cons (fO.ok k) (all_cons (iW.ok k) (all_cons (jo.ok k) (all_cons (jN.ok k) (all_cons (jS.ok k) (all_nil)))))))) (all_cons ⟨Tryz.func7,by kernel_rfl⟩ all_nil) (all_cons fq.e0 (all_cons fq.e1 (all_cons fq.e2 all_nil))) (by kernel_rfl) (by kernel_rfl) (fun ⟨⟨aa,ab,ac,af⟩,a1,_⟩ x h=>⟨k,(fq.eq k aa ab ac af a1).trans h⟩)
noncomputable def lD.m (k:Nat):Sm:=kE [(.sl 3 (.int .i64))] [.pl (.sl 3 (.int .i64))] (fun a=>lD.f k a.1)
noncomputable def iT.E (k:Nat):kr:=⟨tL.tb,fun f=>lk f [(11,iW.m k),(32,jT.m k),(50,fG.m k),(52,iR.m k),(60,iP.m k),(108,gP.m k),(141,lD.m k)],fun f=>jB f [140]⟩
noncomputable def iT.y0 {γ:Type} (x:AV) (bx:List Bx) (x0:Int→Int→(List (List P.S41))→(List P.S43)→(List P.S41)→Int→Int→(List Int)→Int→Int→Int→(List (List P.S41))→(List P.S43)→Int→Int→Option γ) (x1:Int→Int→(List (List P.S41))→(List P.S43)→(List P.S41)→Int→Int→(List Int)→Int→Int→Int→(List (List P.S41))→(List P.S43)→Int→Int→Option γ):Option γ :=
  match yrd true [.box 25 [.i .i64,.i .i64,.s (.sl 41 .sp),.s .gr],.box 28 [.s .sp],.box 36 [.lo 3 (.int .i64)],.box 29 [.li .i64 0],.box 41 [.i .i64,.i .i64],.box 36 [.o 3 (.int .i64)],.box 3 [.i .i64],.box 25 [.i .i64,.i .i64,.s (.sl 41 .sp),.s .gr],.box 41 [.i .i64,.i .i64],.lp .normal] x bx with
  | some [.i z1,.i z2,.l (.sl 41 .sp) z3,.l .gr z4,.l .sp z5,.i z6,.i z7,.l (.int .i64) z8,.i z9,.i z10,.i z11,.l (.sl 41 .sp) z12,.l .gr z13,.i z14,.i z15]=>(x0 z1 z2 z3 z4 z5 z6 z7 z8 z9 z10 z11 z12 z13 z14 z15)
  | _=>match yrd false [.box 25 [.i .i64,.i .i64,.s (.sl 41 .sp),.s .gr],.box 28 [.s .sp],.box 36 [.lo 3 (.int .i64)],.box 29 [.li .i64 3],.box 41 [.i .i64,.i .i64],.box 36 [.o 3 (.int .i64)],.box 3 [.i .i64],.box 25 [.i .i64,.i .i64,.s (.sl 41 .sp),.s .gr],.box 41 [.i .i64,.i .i64],.lp .ret] x bx with
  | some [.i z1,.i z2,.l (.sl 41 .sp) z3,.l .gr z4,.l .sp z5,.i z6,.i z7,.l (.int .i64) z8,.i z9,.i z10,.i z11,.l (.sl 41 .sp) z12,.l .gr z13,.i z14,.i z15]=>(x1 z1 z2 z3 z4 z5 z6 z7 z8 z9 z10 z11 z12 z13 z14 z15)
  | _=>none
noncomputable def iT.y0T {γ:Type}:YdK γ:=fun K x bx=>iT.y0 x bx (fun z1 z2 z3 z4 z5 z6 z7 z8 z9 aa ab z12 ac af ah=>K (kT true) [.box 25 [.v (.int .i64 z1),.v (.int .i64 z2),.sl (.sl 41 .sp) z3,.sl .gr z4],.box 28 [.sl .sp z5],.box 36 [.ow 3 (.int .i64) []],.box 29 [.v (.int .i64 0)],.box 41 [.v (.int .i64 z6),.v (.int .i64 z7)],.box 36 [.ow 3 (.int .i64) z8],.box 3 [.v (.int .i64 z9)],.box 25 [.v (.int .i64 aa),.v (.int .i64 ab),.sl (.sl 41 .sp) z12,.sl .gr ac],.box 41 [.v (.int .i64 af),.v (.int .i64 ah)],.lp .normal]) (fun z1 z2 z3 z4 z5 z6 z7 z8 z9 aa ab z12 ac af ah=>K (kT false) [.box 25 [.v (.int .i64 z1),.v (.int .i64 z2),.sl (.sl 41 .sp) z3,.sl .gr z4],.box 28 [.sl .sp z5],.box 36 [.ow 3 (.int .i64) []],.box 29 [.v (.int .i64 3)],.box 41 [.v (.int .i64 z6),.v (.int .i64 z7)],.box 36 [.ow 3 (.int .i64) z8],.box 3 [.v (.int .i64 z9)],.box 25 [.v (.int .i64 aa),.v (.int .i64 ab),.sl (.sl 41 .sp) z12,.sl .gr ac],.box 41 [.v (.int .i64 af),.v (.int .i64 ah)],.lp .ret])
noncomputable def iT.l0.p:PS:=⟨[.one (.yl 9),.one (.bp 7 0),.one (.bp 8 0),nO,.one (.i .i64),.one (.b)]++nOs 40,[.box 25 [.i .i64,.i .i64,.s (.sl 41 .sp),.s .gr],.box 28 [.s .sp],.box 36 [.lo 3 (.int .i64)],.box 29 [.li .i64 0],.box 41 [.i .i64,.i .i64],.box 36 [.o 3 (.int .i64)],.box 3 [.i .i64],.box 25 [.i .i64,.i .i64,.s (.sl 41 .sp),.s .gr],.box 41 [.i .i64,.i .i64],.lp .normal]⟩
noncomputable def iT.l0.q0:PS:=⟨nOs 46,[.box 25 [.i .i64,.i .i64,.s (.sl 41 .sp),.s .gr],.box 28 [.s .sp],.box 36 [.lo 3 (.int .i64)],.box 29 [.li .i64 0],.box 41 [.i .i64,.i .i64],.box 36 [.o 3 (.int .i64)],.box 3 [.i .i64],.box 25 [.i .i64,.i .i64,.s (.sl 41 .sp),.s .gr],.box 41 [.i .i64,.i .i64],.lp .normal]⟩
noncomputable def iT.l0.q1:PS:=⟨nOs 46,[.box 25 [.i .i64,.i .i64,.s (.sl 41 .sp),.s .gr],.box 28 [.s .sp],.box 36 [.lo 3 (.int .i64)],.box 29 [.li .i64 3],.box 41 [.i .i64,.i .i64],.box 36 [.o 3 (.int .i64)],.box 3 [.i .i64],.box 25 [.i .i64,.i .i64,.s (.sl 41 .sp),.s .gr],.box 41 [.i .i64,.i .i64],.lp .ret]⟩
noncomputable def iT.l0.q2:PS:=⟨nOs 46,[.box 25 [.i .i64,.i .i64,.s (.sl 41 .sp),.s .gr],.box 28 [.s .sp],.box 36 [.lo 3 (.int .i64)],.box 29 [.li .i64 0],.box 41 [.i .i64,.i .i64],.box 36 [.o 3 (.int .i64)],.box 3 [.i .i64],.box 25 [.i .i64,.i .i64,.s (.sl 41 .sp),.s .gr],.box 41 [.i .i64,.i .i64],.lp .normal]⟩
noncomputable def iT.l0.g {γ:Type} (YK:HdK γ) (k:Nat) (K:gY→St→Option γ):List Lf→Option γ
  | [.i v1,.b v2,.i v3,.i v4,.l (.sl 41 .sp) v5,.l .gr v6,.l .sp v7,.i v8,.i v9,.l (.int .i64) v10,.i v11,.i v12,.i v13,.l (.sl 41 .sp) v14,.l .gr v15,.i v16,.i v17]=>iT.l0 (fun q0 q1 q2 q3 q4 q5 q6 q7 q8 q9 ai aj ak al am ao q16 x0 x1=>(YK 9).bind fun h=>h [.pt (.one (.v (.int .i64 q0))),.pt (.one (.sl .sp q1))] [.box 25 [.v (.int .i64 q2),.v (.int .i64 q3),.sl (.sl 41 .sp) q4,.sl .gr q5],.box 28 [.sl .sp q6],.box 36 [.ow 3 (.int .i64) []],.box 29 [.v (.int .i64 0)],.box 41 [.v (.int .i64 q7),.v (.int .i64 q8)],.box 36 [.ow 3 (.int .i64) q9],.box 3 [.v (.int .i64 ai)],.box 25 [.v (.int .i64 aj),.v (.int .i64 ak),.sl (.sl 41 .sp) al,.sl .gr am],.box 41 [.v (.int .i64 ao),.v (.int .i64 q16)],.lp .normal] (fun x bx=>iT.y0 x bx x0 x1)) (fun y1 y2 y3 y4 y5 y6 y7 y8 y9 aa ab ac y13 af ah=>K .ret (iT.l0.q0.mk' [.i y1,.i y2,.l (.sl 41 .sp) y3,.l .gr y4,.l .sp y5,.i y6,.i y7,.l (.int .i64) y8,.i y9,.i aa,.i ab,.l (.sl 41 .sp) ac,.l .gr y13,.i af,.i ah])) (fun y1 y2 y3 y4 y5 y6 y7 y8 y9 aa ab ac y13 af ah=>K .ret (iT.l0.q1.mk' [.i y1,.i y2,.l (.sl 41 .sp) y3,.l .gr y4,.l .sp y5,.i y6,.i y7,.l (.int .i64) y8,.i y9,.i aa,.i ab,.l (.sl 41 .sp) ac,.l .gr y13,.i af,.i ah])) (fun y1 y2 y3 y4 y5 y6 y7 y8 y9 aa ab ac y13 af ah=>K (.exit 0) (iT.l0.q2.mk' [.i y1,.i y2,.l (.sl 41 .sp) y3,.l .gr y4,.l .sp y5,.i y6,.i y7,.l (.int .i64) y8,.i y9,.i aa,.i ab,.l (.sl 41 .sp) ac,.l .gr y13,.i af,.i ah]))  k v1 v2 v3 v4 v5 v6 v7 v8 v9 v10 v11 v12 v13 v14 v15 v16 v17
  | _=>none
noncomputable def iT.C {γ:Type}:Ctx γ:=⟨iT.E,[(105,Tryz.f105),(140,Tryz.f140),(164,Tryz.f164)],fun f=>(lk f [(105,⟨fun d=>jB d [34],fun c=>lk c [],fun c=>lk c [],fun _=>none,fun _=>([],[])⟩),(140,⟨fun d=>jB d [],fun c=>lk c [],fun c=>lk c [],fun _=>none,fun _=>([],[])⟩),(164,⟨fun d=>jB d [],fun c=>lk c [(0,[0,1,2,4,5])],fun c=>lk c [(0,[])],fun _=>none,fun _=>([],[])⟩)]).getD ⟨fun _=>false,fun _=>none,fun _=>none,fun _=>none,fun _=>([],[])⟩,[⟨1,164,0,j6 [(iT.l0.p,iT.l0.g)]⟩],[⟨1,164,9,iT.y0T⟩]⟩
theorem iT.l0.eq {γ:Type} (YK:HdK γ) (rl:Option Nat) (K:gY→St→Option γ)  : ∀ (k:Nat) (v1:Int) (v2:Bool) (v3:Int) (v4:Int) (v5:List (List P.S41)) (v6:List P.S43) (v7:List P.S41) (v8:Int) (v9:Int) (v10:List Int) (v11:Int) (v12:Int) (v13:Int) (v14:List (List P.S41)) (v15:List P.S43) (v16:Int) (v17:Int),iT.C.lK 1 164 0 Tryz.f164 YK rl 10 k (iT.l0.p.mk' [.i v1,.b v2,.i v3,.i v4,.l (.sl 41 .sp) v5,.l .gr v6,.l .sp v7,.i v8,.i v9,.l (.int .i64) v10,.i v11,.i v12,.i v13,.l (.sl 41 .sp) v14,.l .gr v15,.i v16,.i v17]) K=iT.l0 (fun q0 q1 q2 q3 q4 q5 q6 q7 q8 q9 ai aj ak al am ao q16 x0 x1=>(YK 9).bind fun h=>h [.pt (.one (.v (.int .i64 q0))),.pt (.one (.sl .sp q1))] [.box 25 [.v (.int .i64 q2),.v (.int .i64 q3),.sl (.sl 41 .sp) q4,.sl .gr q5],.box 28 [.sl .sp q6],.box 36 [.ow 3 (.int .i64) []],.box 29 [.v (.int .i64 0)],.box 41 [.v (.int .i64 q7),.v (.int .i64 q8)],.box 36 [.ow 3 (.int .i64) q9],.box 3 [.v (.int .i64 ai)],.box 25 [.v (.int .i64 aj),.v (.int .i64 ak),.sl (.sl 41 .sp) al,.sl .gr am],.box 41 [.v (.int .i64 ao),.v (.int .i64 q16)],.lp .normal] (fun x bx=>iT.y0 x bx x0 x1)) (fun y1 y2 y3 y4 y5 y6 y7 y8 y9 aa ab ac y13 af ah=>K .ret (iT.l0.q0.mk' [.i y1,.i y2,.l (.sl 41 .sp) y3,.l .gr y4,.l .sp y5,.i y6,.i y7,.l (.int .i64) y8,.i y9,.i aa,.i ab,.l (.sl 41 .sp) ac,.l .gr y13,.i af,.i ah])) (fun y1 y2 y3 y4 y5 y6 y7 y8 y9 aa ab ac y13 af ah=>K .ret (iT.l0.q1.mk' [.i y1,.i y2,.l (.sl 41 .sp) y3,.l .gr y4,.l .sp y5,.i y6,.i y7,.l (.int .i64) y8,.i y9,.i aa,.i ab,.l (.sl 41 .sp) ac,.l .gr y13,.i af,.i ah])) (fun y1 y2 y3 y4 y5 y6 y7 y8 y9 aa ab ac y13 af ah=>K (.exit 0) (iT.l0.q2.mk' [.i y1,.i y2,.l (.sl 41 .sp) y3,.l .gr y4,.l .sp y5,.i y6,.i y7,.l (.int .i64) y8,.i y9,.i aa,.i ab,.l (.sl 41 .sp) ac,.l .gr y13,.i af,.i ah]))  k v1 v2 v3 v4 v5 v6 v7 v8 v9 v10 v11 v12 v13 v14 v15 v16 v17:=by
  intro k;induction k with
  | zero=>intros;rfl
  | succ k ih =>
    intros v1 v2 v3 v4 v5 v6 v7 v8 v9 v10 v11 v12 v13 v14 v15 v16 v17
    exact (show iT.C.lK 1 164 0 Tryz.f164 YK rl 10 (k+1) (iT.l0.p.mk' [.i v1,.b v2,.i v3,.i v4,.l (.sl 41 .sp) v5,.l .gr v6,.l .sp v7,.i v8,.i v9,.l (.int .i64) v10,.i v11,.i v12,.i v13,.l (.sl 41 .sp) v14,.l .gr v15,.i v16,.i v17]) K=iT.l0T (fun v1 v2 v3 v4 v5 v6 v7 v8 v9 v10 v11 v12 v13 v14 v15 v16 v17=>iT.C.lK 1 164 0 Tryz.f164 YK rl 10 k (iT.l0.p.mk' [.i v1,.b v2,.i v3,.i v4,.l (.sl 41 .sp) v5,.l .gr v6,.l .sp v7,.i v8,.i v9,.l (.int .i64) v10,.i v11,.i v12,.i v13,.l (.sl 41 .sp) v14,.l .gr v15,.i v16,.i v17]) K) (fun q0 q1 q2 q3 q4 q5 q6 q7 q8 q9 ai aj ak al am ao q16 x0 x1=>(YK 9).bind fun h=>h [.pt (.one (.v (.int .i64 q0))),.pt (.one (.sl .sp q1))] [.box 25 [.v (.int .i64 q2),.v (.int .i64 q3),.sl (.sl 41 .sp) q4,.sl .gr q5],.box 28 [.sl .sp q6],.box 36 [.ow 3 (.int .i64) []],.box 29 [.v (.int .i64 0)],.box 41 [.v (.int .i64 q7),.v (.int .i64 q8)],.box 36 [.ow 3 (.int .i64) q9],.box 3 [.v (.int .i64 ai)],.box 25 [.v (.int .i64 aj),.v (.int .i64 ak),.sl (.sl 41 .sp) al,.sl .gr am],.box 41 [.v (.int .i64 ao),.v (.int .i64 q16)],.lp .normal] (fun x bx=>iT.y0 x bx x0 x1)) (fun y1 y2 y3 y4 y5 y6 y7 y8 y9 aa ab ac y13 af ah=>K .ret (iT.l0.q0.mk' [.i y1,.i y2,.l (.sl 41 .sp) y3,.l .gr y4,.l .sp y5,.i y6,.i y7,.l (.int .i64) y8,.i y9,.i aa,.i ab,.l (.sl 41 .sp) ac,.l .gr y13,.i af,.i ah])) (fun y1 y2 y3 y4 y5 y6 y7 y8 y9 aa ab ac y13 af ah=>K .ret (iT.l0.q1.mk' [.i y1,.i y2,.l (.sl 41 .sp) y3,.l .gr y4,.l .sp y5,.i y6,.i y7,.l (.int .i64) y8,.i y9,.i aa,.i ab,.l (.sl 41 .sp) ac,.l .gr y13,.i af,.i ah])) (fun y1 y2 y3 y4 y5 y6 y7 y8 y9 aa ab ac y13 af ah=>K (.exit 0) (iT.l0.q2.mk' [.i y1,.i y2,.l (.sl 41 .sp) y3,.l .gr y4,.l .sp y5,.i y6,.i y7,.l (.int .i64) y8,.i y9,.i aa,.i ab,.l (.sl 41 .sp) ac,.l .gr y13,.i af,.i ah]))  k v1 v2 v3 v4 v5 v6 v7 v8 v9 v10 v11 v12 v13 v14 v15 v16 v17 by kernel_rfl).trans (by
      rw [show (fun v1 v2 v3 v4 v5 v6 v7 v8 v9 v10 v11 v12 v13 v14 v15 v16 v17=>iT.C.lK 1 164 0 Tryz.f164 YK rl 10 k (iT.l0.p.mk' [.i v1,.b v2,.i v3,.i v4,.l (.sl 41 .sp) v5,.l .gr v6,.l .sp v7,.i v8,.i v9,.l (.int .i64) v10,.i v11,.i v12,.i v13,.l (.sl 41 .sp) v14,.l .gr v15,.i v16,.i v17]) K)=iT.l0 (fun q0 q1 q2 q3 q4 q5 q6 q7 q8 q9 ai aj ak al am ao q16 x0 x1=>(YK 9).bind fun h=>h [.pt (.one (.v (.int .i64 q0))),.pt (.one (.sl .sp q1))] [.box 25 [.v (.int .i64 q2),.v (.int .i64 q3),.sl (.sl 41 .sp) q4,.sl .gr q5],.box 28 [.sl .sp q6],.box 36 [.ow 3 (.int .i64) []],.box 29 [.v (.int .i64 0)],.box 41 [.v (.int .i64 q7),.v (.int .i64 q8)],.box 36 [.ow 3 (.int .i64) q9],.box 3 [.v (.int .i64 ai)],.box 25 [.v (.int .i64 aj),.v (.int .i64 ak),.sl (.sl 41 .sp) al,.sl .gr am],.box 41 [.v (.int .i64 ao),.v (.int .i64 q16)],.lp .normal] (fun x bx=>iT.y0 x bx x0 x1)) (fun y1 y2 y3 y4 y5 y6 y7 y8 y9 aa ab ac y13 af ah=>K .ret (iT.l0.q0.mk' [.i y1,.i y2,.l (.sl 41 .sp) y3,.l .gr y4,.l .sp y5,.i y6,.i y7,.l (.int .i64) y8,.i y9,.i aa,.i ab,.l (.sl 41 .sp) ac,.l .gr y13,.i af,.i ah])) (fun y1 y2 y3 y4 y5 y6 y7 y8 y9 aa ab ac y13 af ah=>K .ret (iT.l0.q1.mk' [.i y1,.i y2,.l (.sl 41 .sp) y3,.l .gr y4,.l .sp y5,.i y6,.i y7,.l (.int .i64) y8,.i y9,.i aa,.i ab,.l (.sl 41 .sp) ac,.l .gr y13,.i af,.i ah])) (fun y1 y2 y3 y4 y5 y6 y7 y8 y9 aa ab ac y13 af ah=>K (.exit 0) (iT.l0.q2.mk' [.i y1,.i y2,.l (.sl 41 .sp) y3,.l .gr y4,.l .sp y5,.i y6,.i y7,.l (.int .i64) y8,.i y9,.i aa,.i ab,.l (.sl 41 .sp) ac,.l .gr y13,.i af,.i ah]))  k from by exact funext fun v1=>funext fun v2=>funext fun v3=>funext fun v4=>funext fun v5=>funext fun v6=>funext fun v7=>funext fun v8=>funext fun v9=>funext fun v10=>funext fun v11=>funext fun v12=>funext fun v13=>funext fun v14=>funext fun v15=>funext fun v16=>funext fun v17=>ih v1 v2 v3 v4 v5 v6 v7 v8 v9 v10 v11 v12 v13 v14 v15 v16 v17]
      rfl)
end Go.Proofs.YtongeknogcboiaaGreat.R
namespace Go.Proofs.YtongeknogcboiaaGreat.M
noncomputable section
set_option linter.unusedVariables false
set_option linter.unusedSimpArgs false
open Go.RowKit Go.Proofs.YtongeknogcboiaaGreatW.gy Go.Proofs.YtongeknogcboiaaGreatW.iE
def gh0 (W:World):Gh:={ ow:=fun _=>none,pr:=fun b _=>b<W.heap.size,bx:=fun _=>0,lr:=fun _=>default,lv:=fun _=>False,av:=fun _=>undef }
theorem cp0 {W:World} {a:Addr} {v:Value} (h:W.cell? a=some v):mG (gh0 W) W a v:=⟨h,by
  show a.block<W.heap.size;unfold World.cell? at h;cases hb:W.heap[a.block]? with
  | none=>rw [hb] at h;cases h
  | some _=>exact (Array.getElem?_eq_some_iff.1 hb).1⟩
theorem row0 {α:Type} {R R':α→List Value→Prop} {sz n:Nat} (hz:0<sz) {W:World} (hR:∀ x cs,R x cs→R' x cs) {A:Option Addr} {xs:List α} (h:mH R sz W A n xs):abf R' sz (mG (gh0 W) W) A xs:=fun i x hx=>by
  obtain ⟨hl,_,h⟩:=h;have hi:0<n:=by have:=(List.getElem?_eq_some_iff.1 hx).1;omega
  obtain ⟨ad,rfl,h2⟩:=h hi;obtain ⟨c,hc,hr,hcell⟩:=h2 i x hx;have hs:ad.spot=none:=by
    obtain ⟨c0,hc0,_,hcell0⟩:=h2 0 _ (List.getElem?_eq_getElem (by omega));have:=hcell0 0 (c0[0]'(by omega)) (by simp);rw [Nat.zero_mul] at this;exact qE this
  obtain ⟨b,o,s⟩:=ad;obtain rfl:s=none:=hs;refine ⟨b,o,c,rfl,hR _ _ hr,hc,fun j v hv => ?_⟩;have:=hcell j v hv;rw [Addr.add_mid] at this;exact cp0 this
theorem sl0 {α:Type} {R R':α→List Value→Prop} {sz c:Nat} (hz:0<sz) {W:World} (hR:∀ x cs,R x cs→R' x cs) {A:Option Addr} {xs:List α} (hc:xs.length≤c) (h:mH R sz W A xs.length xs):SlR R' sz (mG (gh0 W) W) xs (.slice A xs.length c):=⟨A,c,rfl,hc,row0 hz hR h⟩
theorem fm0 {W:World} (p c:Int) {A2:Option Addr} {c2:Nat} {core:List (List P.S41)} {A3:Option Addr} {c3:Nat} {odd:List P.S43} (h2:Kd.C (Kd.slice 41 P.k41) W A2 core.length core) (l2:core.length≤c2) (h3:Kd.C P.k43 W A3 odd.length odd) (l3:odd.length≤c3) :
    Ty.fm.R (mG (gh0 W) W) ⟨p,c,core,odd⟩ [.int .i64 p,.int .i64 c,.slice A2 core.length c2,.slice A3 odd.length c3] :=
  ⟨_,_,rfl,sl0 (by decide) (fun x cs h=>by
    obtain ⟨A,k,rfl,hl,hk⟩:=h;exact ⟨_,rfl,sl0 (by decide) (fun x cs h=>P.xw h) hl hk⟩) l2 h2,sl0 (by decide) (fun x cs h=>by
    obtain ⟨A,k,rfl,hl,hk⟩:=P.abt h;exact ⟨_,rfl,sl0 (by decide) (fun x cs h=>P.xw h) hl hk⟩) l3 h3⟩
def adB (W:World):(ts:List Ty)→o9 ts→List Value→Prop
  | [],_,[]=>True
  | t :: ts,a,v :: vs=>(∃ ws,t.R (mG (gh0 W) W) a.1 ws∧VW t ws v)∧adB W ts a.2 vs
  | _,_,_=>False
theorem aeB {W:World}:∀ {ts:List Ty} {a:o9 ts} {vs:List Value},adB W ts a vs→(iQ ts a).length=vs.length∧∀ (i:Nat) (x:AV) (v:Value),(iQ ts a)[i]? = some x→vs[i]? = some v→∀ fr' i',AVR 0 (gh0 W) W fr' i' x v
  | [],_,[],_=>⟨rfl,fun i x v hx=>by simp [iQ] at hx⟩
  | [],_,_ :: _,h=>h.elim
  | _ :: _,_,[],h=>h.elim
  | t :: ts,a,v :: vs,⟨⟨ws,h1,h2⟩,h3⟩=>by
    obtain ⟨q1,q2⟩:=aeB h3;refine ⟨by simp [iQ,q1],fun i x u hx hu fr' i' => ?_⟩;cases i with
    | zero =>
      simp [iQ] at hx hu
      subst hx;subst hu;exact adn _ t a.1 h1 h2
    | succ i=>exact q2 i x u (by simpa [iQ] using hx) (by simpa using hu) fr' i'
theorem Ty.of_cells:(t:Ty)→(x:t.T)→t.of (t.cells x)=some x
  | .int k,x=>by simp [Ty.of,Ty.cells]
  | .bool,x=>rfl
  | .str,x=>rfl
  | .sp,x=>rfl
  | .gr,x=>by simp [Ty.of,Ty.cells,Cell.asL]
  | .fm,x=>by simp [Ty.of,Ty.cells,Cell.asL]
  | .sl _ t,x=>by simp [Ty.of,Ty.cells,Cell.asL]
theorem aeC (t:Ty) (x:t.T):rdP t (mkP t x)=some x:=by
  have h:=Ty.of_cells t x;cases t <;> simpa [mkP,rdP,Ty.cells,Ty.ag] using h
theorem vN:(ts:List Ty)→(a:o9 ts)→oI ts (iQ ts a)=some a
  | [],_=>rfl
  | t :: ts,a=>by
    simp only [iQ,oI,aeC,vN ts a.2];rfl
theorem aaL {P:Program} {f:FuncId} {ts:List Ty} {F:o9 ts→Option Bool} (h:kM P f (kE ts [.pl .bool] F).s) {W:World} {a:o9 ts} {vs:List Value} (hR:adB W ts a vs) (hF:F a=some true) :
    Calls P f vs.toArray W fun e W'=>e=.returned (.bool true)∧Below W.heap.size W W':=by
  obtain ⟨fn,_,_,_,h⟩:=h;obtain ⟨q1,q2⟩:=aeB hR;have hs:(kE ts [.pl .bool] F).s (iQ ts a)=some (zw [.pl .bool] true):=by
    show ((oI ts (iQ ts a)).map F).bind _=_;rw [vN];show (F a).map _=_;rw [hF];rfl
  refine (h 0 (gh0 W) W 0 0 _ _ _ ⟨fun b o hb=>hb,fun b ℓ hl=>by cases hl⟩ (by simpa using q1) (fun i x v hx hv=>q2 i x v hx (by simpa using hv)) hs).mono ?_;rintro e W' ⟨v,rfl,g',_,_,hE,hv⟩;refine ⟨?_,⟨hE.os,hE.tape,hE.output,hE.size,fun b hb=>(hE.far b hb (fun ℓ hl=>by cases hl)).1⟩⟩;have hv:v=.bool true∧_:=hv;rw [hv.1]
end
end Go.Proofs.YtongeknogcboiaaGreat.M
namespace Go.Proofs.YtongeknogcboiaaGreat.P
set_option linter.unusedVariables false
set_option linter.unusedSimpArgs false
open Go.RowKit
def SL (lo hi:Int):List Sp→Prop
  | []=>True
  | s :: r=>lo≤s.f0∧s.f0≤s.f1∧s.f1≤hi∧SL (s.f1+2) hi r
def zI (l:List Sp) (x:Int):Bool:=l.any fun s=>decide (s.f0≤x)&&decide (x≤s.f1)
theorem ny (s:Sp) (r:List Sp) (x:Int):zI (s :: r) x=((decide (s.f0≤x)&&decide (x≤s.f1)) || zI r x):=rfl
theorem SL.mono {lo lo' hi:Int} (h:lo'≤lo):∀ {l:List Sp},SL lo hi l→SL lo' hi l
  | [],_=>trivial
  | _ :: _,hs=>⟨by have:=hs.1;omega,hs.2⟩
theorem SL.low {lo hi:Int} {l:List Sp} (hs:SL lo hi l) {x:Int} (hx:x<lo):zI l x=false:=by
  induction l generalizing lo with
  | nil=>rfl
  | cons s r ih =>
    obtain ⟨h1,h2,h3,h4⟩:=hs;rw [ny,ih h4 (by omega)];have:¬ s.f0≤x:=by omega
    simp [this]
theorem SL.high {lo hi:Int} {l:List Sp} (hs:SL lo hi l) {x:Int} (hx:hi<x):zI l x=false:=by
  induction l generalizing lo with
  | nil=>rfl
  | cons s r ih =>
    obtain ⟨h1,h2,h3,h4⟩:=hs;rw [ny,ih h4];have:¬ x≤s.f1:=by omega
    simp [this]
theorem SL.ticks {lo hi:Int} {l:List Sp} (hs:SL lo hi l) {s:Sp} (h:s∈l):lo≤s.f0∧s.f0≤s.f1∧s.f1≤hi:=by
  induction l generalizing lo with
  | nil=>simp at h
  | cons t r ih =>
    obtain ⟨h1,h2,h3,h4⟩:=hs;rcases List.mem_cons.1 h with rfl | h
    · exact ⟨h1,h2,h3⟩
    · obtain ⟨a,b,c⟩:=ih h4 h
      exact ⟨by omega,b,c⟩
def Inv (hi:Int) (a:List Sp) (i:Bool) (p:Int):Prop :=
  match a,i with
  | [],i=>i=false
  | s :: r,true=>s.f0≤p∧p≤s.f1∧s.f1≤hi∧SL (s.f1+2) hi r
  | s :: r,false=>SL (p+1) hi (s :: r)
theorem pV {n:Int} (h1 : -9223372036854775808≤n) (h2:n≤9223372036854775807):wrap64 n=n:=by unfold wrap64;omega
theorem Inv.step {hi p t:Int} {a:List Sp} {i:Bool} (h:Inv hi a i p) (hp : -4611686018427387904≤p) (hh:hi≤4611686018427387904) (hpt:p<t) (ht:a≠[]→t≤aeW a i) :
    Inv hi (zV a i t).1 (zV a i t).2 t∧(∀ x,t≤x→zI (zV a i t).1 x=zI a x)∧(∀ x,p≤x→x<t→zI a x=i):=by
  match a,i with
  | [],i =>
    have:i=false:=h;subst this;exact ⟨rfl,fun _ _=>rfl,fun _ _ _=>rfl⟩
  | s :: r,true =>
    obtain ⟨h1,h2,h3,h4⟩:=h;have hw:wrap64 (s.f1+1)=s.f1+1:=pV (by omega) (by omega);have ht':=ht (by simp);simp only [aeW,hw] at ht';have hin:∀ x,p≤x→x<t→zI (s :: r) x=true:=fun x a b=>by
      have c1:s.f0≤x:=by omega
      have c2:x≤s.f1:=by omega
      simp [ny,c1,c2]
    simp only [zV,hw];by_cases e:s.f1+1=t
    · rw [if_pos e]
      refine ⟨?_,fun x hx => ?_,hin⟩
      · cases r with
        | nil=>rfl
        | cons u r=>exact SL.mono (by omega) h4
      · have:¬ x≤s.f1:=by omega
        simp [ny,this]
    · rw [if_neg e]
      exact ⟨⟨by omega,by omega,h3,h4⟩,fun _ _=>rfl,hin⟩
  | s :: r,false =>
    obtain ⟨h1,h2,h3,h4⟩:=h;have ht':=ht (by simp);simp only [aeW] at ht';have hout:∀ x,p≤x→x<t→zI (s :: r) x=false:=fun x a b=>by
      have c1:¬ s.f0≤x:=by omega
      rw [ny,h4.low (by omega)];simp [c1]
    simp only [zV];by_cases e:s.f0=t
    · rw [if_pos e]
      exact ⟨⟨by omega,by omega,h3,h4⟩,fun _ _=>rfl,hout⟩
    · rw [if_neg e]
      exact ⟨⟨by omega,h2,h3,h4⟩,fun _ _=>rfl,hout⟩
def ins:List Int→Int→List Int
  | [],x=>[x]
  | y :: r,x=>if y=x then y :: r else if y>x then x :: y :: r else y :: ins r x
end Go.Proofs.YtongeknogcboiaaGreat.P
namespace Go.Proofs.YtongeknogcboiaaGreat.P
set_option linter.unusedVariables false
set_option linter.unusedSimpArgs false
open Go.RowKit Go.ChangeShapes Go.WideShapes Go.Deep Go.Proofs.YtongeknogcboiaaGreatW.gy
def fits (n:Int):Prop:=(Lit.int .i64 n).wf=true
def qX (s:Sp):Prop:=fits s.f0∧fits s.f1
end Go.Proofs.YtongeknogcboiaaGreat.P
namespace Go.Proofs.YtongeknogcboiaaGreat.P
set_option linter.unusedVariables false
set_option linter.unusedSimpArgs false
open Go.RowKit Go.ChangeShapes Go.WideShapes Go.Deep Go.Proofs.YtongeknogcboiaaGreatW.gy Go.Proofs.YtongeknogcboiaaGreatW.jh
theorem zR {cs:List Value} (h:cs.length=2):∃ a b,cs=[a,b]:=by
  match cs,h with
  | [a,b],_=>exact ⟨a,b,rfl⟩
theorem zS {cs:List Value} (h:cs.length=4):∃ a b c d,cs=[a,b,c,d]:=by
  match cs,h with
  | [a,b,c,d],_=>exact ⟨a,b,c,d,rfl⟩
theorem wV {T:Type} (k:Kd T) {H:Type} {enc:TypeId × Value→H} {w:World} {base:Nat} {held:Bool} {t e:TypeId} {fuel:Nat} {cs:List Value} {x:DataW H × List MemPlace}
    (ht:Tryz.prog.underlying t=some (.slice e)) (hn:Tryz.prog.cellsOf e=k.sz) (Q:T→Prop)
    (op:∀ fuel cs x,DataW.trod enc Tryz.prog w base (fun _=>true) held fuel e cs=some x→∃ v,k.K w v cs∧Q v)
    (h:DataW.trod enc Tryz.prog w base (fun _=>true) held fuel t cs=some x) :
    ∃ (a:Option Addr) (cap:Nat) (l:List T),cs=[.slice a l.length cap]∧l.length≤cap∧Kd.C k w a l.length l∧(∀ s∈l,Q s)∧l.length≤9223372036854775807:=by
  rcases open_slice ht h with ⟨hc,_⟩ | ⟨a,len,cap,m,n,D,Pl,hc,hb,hl,hm,hmm,hx,hi⟩
  · exact ⟨none,0,[],by rw [hc];rfl,Nat.le_refl _,⟨rfl,by simp,fun h=>absurd h (by simp)⟩,by simp,by simp⟩
  · have hlm:len≤m:=by rw [hmm];simpa using hl
    have hk:∀ i,i<len→∃ v cs',k.K w v cs'∧Q v∧∀ j u,cs'[j]? = some u→w.cell? (a.add (i*k.sz+j))=some u:=by
      intro i hi';obtain ⟨cs',h1,h2⟩:=hi i (by omega);rw [hn] at h1;obtain ⟨_,hlen,hcell⟩:=World.cells?_some h1;obtain ⟨v,v1,v2⟩:=op _ _ _ h2;refine ⟨v,cs',v1,v2,fun j u hu => ?_⟩;have hj:j<k.sz:=by rw [← hlen];exact (List.getElem?_eq_some_iff.1 hu).1
      have:=hcell j hj;rw [Deep.add_add] at this;rw [this,hu]
    have hmax:len≤9223372036854775807:=by unfold maxLen at hm;omega
    suffices key:∀ q,q≤len→∃ l:List T,l.length=q∧(∀ j s,l[j]? = some s→∃ cs',k.K w s cs'∧∀ i u,cs'[i]? = some u→w.cell? (a.add (j*k.sz+i))=some u)∧∀ s∈l,Q s by
      obtain ⟨l,rfl,hl2,hfit⟩:=key len (Nat.le_refl _);refine ⟨some a,cap,l,hc,hl,⟨rfl,hmax,fun _=>⟨a,rfl,fun j s hj => ?_⟩⟩,hfit,hmax⟩;obtain ⟨cs',g1,g2⟩:=hl2 j s hj;exact ⟨cs',k.mW g1,g1,g2⟩
    intro q;induction q with
    | zero=>exact fun _=>⟨[],rfl,fun j s h=>by simp at h,by simp⟩
    | succ q ih =>
      intro hk';obtain ⟨l,hl1,hl2,hl3⟩:=ih (by omega);obtain ⟨s,cs',h0,h1,h2⟩:=hk q (by omega);refine ⟨l++[s],by simp [hl1],fun j t hj => ?_,fun t ht => ?_⟩
      · by_cases hjk:j<l.length
        · rw [List.getElem?_append_left hjk] at hj;exact hl2 j t hj
        · rw [List.getElem?_append_right (by omega)] at hj
          have:j - l.length=0:=by
            by_cases e:j - l.length=0
            · exact e
            · rw [List.getElem?_eq_none (by simp;omega)] at hj;cases hj
          rw [this] at hj;simp at hj;subst hj;have:j=q:=by omega
          subst this;exact ⟨cs',h0,h2⟩
      · simp at ht
        rcases ht with ht | rfl
        · exact hl3 t ht
        · exact h1
section
variable {H:Type} {enc:TypeId × Value→H} {w:World} {base:Nat} {held:Bool} {fuel:Nat} {cs:List Value} {x:DataW H × List MemPlace}
theorem nV (h:DataW.trod enc Tryz.prog w base (fun _=>true) held fuel 3 cs=some x):∃ n,cs=[.int .i64 n]∧fits n:=by
  obtain ⟨n,e0,_,w0⟩:=DataW.trod_int Tryz.underlying3 h;exact ⟨n,e0,w0⟩
theorem adC (h:DataW.trod enc Tryz.prog w base (fun _=>true) held fuel 41 cs=some x):∃ s:Sp,k41.K w s cs∧qX s:=by
  obtain ⟨xs,n,_,_,hl,hxs,hf⟩:=DataW.trod_struct Tryz.underlying41 h;have e9:Tryz.prog.cellsOf 41=2:=by kernel_rfl
  rw [e9] at hl;have hl2:cs.length=2:=hl;clear hl e9;obtain ⟨v0,v1,rfl⟩:=zR hl2;have g0:DataW.trod enc Tryz.prog w base (fun _=>true) held n 3 (List.take (Tryz.prog.cellsOf 3) (List.drop 0 [v0,v1]))=xs[0]? := hf 0 _ rfl;rw [show Tryz.prog.cellsOf 3=1 by kernel_rfl] at g0;have g1:DataW.trod enc Tryz.prog w base (fun _=>true) held n 3 (List.take (Tryz.prog.cellsOf 3) (List.drop 1 [v0,v1]))=xs[1]? := hf 1 _ rfl;rw [show Tryz.prog.cellsOf 3=1 by kernel_rfl] at g1;cases hx0:xs[0]? with
  | none=>have:=List.getElem?_eq_none_iff.1 hx0;rw [hxs] at this;exact absurd this (by decide)
  | some y0 =>
    cases hx1:xs[1]? with
    | none=>have:=List.getElem?_eq_none_iff.1 hx1;rw [hxs] at this;exact absurd this (by decide)
    | some y1 =>
      rw [hx0] at g0;rw [hx1] at g1;obtain ⟨a,ea,wa⟩:=nV g0;obtain ⟨b,eb,wb⟩:=nV g1;have aa:[v0]=[.int .i64 a]:=ea;have eb':[v1]=[.int .i64 b]:=eb;injection aa with aa
      injection eb' with eb'
      subst aa eb';exact ⟨⟨a,b⟩,ad4 w ⟨a,b⟩,wa,wb⟩
theorem yt (h:DataW.trod enc Tryz.prog w base (fun _=>true) held fuel 28 cs=some x):∃ (a:Option Addr) (cap:Nat) (l:List Sp),cs=[.slice a l.length cap]∧l.length≤cap∧Kd.C k41 w a l.length l∧(∀ s∈l,qX s)∧l.length≤9223372036854775807 :=
  wV k41 Tryz.underlying28 (by kernel_rfl) qX (fun _ _ _ g=>adC g) h
theorem aaM (h:DataW.trod enc Tryz.prog w base (fun _=>true) held fuel 28 cs=some x):∃ l:List Sp,(Kd.slice 41 k41).K w l cs∧((∀ s∈l,qX s)∧l.length≤9223372036854775807):=by
  obtain ⟨a,cap,l,rfl,h1,h2,h3,h4⟩:=yt h;exact ⟨l,⟨a,cap,rfl,h1,h2⟩,h3,h4⟩
theorem aaN (h:DataW.trod enc Tryz.prog w base (fun _=>true) held fuel 22 cs=some x):∃ (a:Option Addr) (cap:Nat) (l:List (List Sp)),cs=[.slice a l.length cap]∧l.length≤cap∧Kd.C (Kd.slice 41 k41) w a l.length l∧(∀ s∈l,(∀ z∈s,qX z)∧s.length≤9223372036854775807)∧l.length≤9223372036854775807 :=
  wV (Kd.slice 41 k41) Tryz.underlying22 (by kernel_rfl) _ (fun _ _ _ g=>aaM g) h
def yu (g:S43):Prop:=fits g.f0∧(∀ z∈g.f1,qX z)∧g.f1.length≤9223372036854775807
theorem adD (h:DataW.trod enc Tryz.prog w base (fun _=>true) held fuel 43 cs=some x):∃ g:S43,k43.K w g cs∧yu g:=by
  obtain ⟨xs,n,_,_,hl,hxs,hf⟩:=DataW.trod_struct Tryz.underlying43 h;have e9:Tryz.prog.cellsOf 43=2:=by kernel_rfl
  rw [e9] at hl;have hl2:cs.length=2:=hl;clear hl e9;obtain ⟨v0,v1,rfl⟩:=zR hl2;have g0:DataW.trod enc Tryz.prog w base (fun _=>true) held n 3 (List.take (Tryz.prog.cellsOf 3) (List.drop 0 [v0,v1]))=xs[0]? := hf 0 _ rfl;rw [show Tryz.prog.cellsOf 3=1 by kernel_rfl] at g0;have g1:DataW.trod enc Tryz.prog w base (fun _=>true) held n 28 (List.take (Tryz.prog.cellsOf 28) (List.drop 1 [v0,v1]))=xs[1]? := hf 1 _ rfl;rw [show Tryz.prog.cellsOf 28=1 by kernel_rfl] at g1;cases hx0:xs[0]? with
  | none=>have:=List.getElem?_eq_none_iff.1 hx0;rw [hxs] at this;exact absurd this (by decide)
  | some y0 =>
    cases hx1:xs[1]? with
    | none=>have:=List.getElem?_eq_none_iff.1 hx1;rw [hxs] at this;exact absurd this (by decide)
    | some y1 =>
      rw [hx0] at g0;rw [hx1] at g1;obtain ⟨a,ea,wa⟩:=nV g0;obtain ⟨b,cap,l,eb,l1,l2,l3,l4⟩:=yt g1;have aa:[v0]=[.int .i64 a]:=ea;have eb':[v1]=[.slice b l.length cap]:=eb;injection aa with aa
      injection eb' with eb'
      subst aa eb';exact ⟨⟨a,l⟩,ad5 w ⟨a,l⟩ l1 l2,wa,l3,l4⟩
theorem ab7 (h:DataW.trod enc Tryz.prog w base (fun _=>true) held fuel 23 cs=some x):∃ (a:Option Addr) (cap:Nat) (l:List S43),cs=[.slice a l.length cap]∧l.length≤cap∧Kd.C k43 w a l.length l∧(∀ s∈l,yu s)∧l.length≤9223372036854775807 :=
  wV k43 Tryz.underlying23 (by kernel_rfl) yu (fun _ _ _ g=>adD g) h
structure ab8 (p c:Int) (core:List (List Sp)) (odd:List S43):Prop where
  fp:fits p
  fc:fits c
  afF:∀ l∈core,(∀ z∈l,qX z)∧l.length≤9223372036854775807
  agA:∀ g∈odd,yu g
  lc:core.length≤9223372036854775807
  lo:odd.length≤9223372036854775807
set_option maxRecDepth 200000 in
theorem aaO {b0:Nat} {v:Value} {d:DataW H} {ps:List MemPlace} (hv:Value.okWide Tryz.prog w .any b0 25 v) (h:DataW.Trod enc Tryz.prog w base (fun _=>true) held 25 v d ps) :
    ∃ (p c:Int) (A2:Option Addr) (c2:Nat) (core:List (List Sp)) (A3:Option Addr) (c3:Nat) (odd:List S43),v=.agg #[.int .i64 p,.int .i64 c,.slice A2 core.length c2,.slice A3 odd.length c3] ∧
      Kd.C (Kd.slice 41 k41) w A2 core.length core∧core.length≤c2∧Kd.C k43 w A3 odd.length odd∧odd.length≤c3∧ab8 p c core odd:=by
  have hq:=okWide_struct (P:=Tryz.prog) (w:=w) (r:=.any) (base:=b0) (t:=25) (v:=v) Tryz.underlying25;have hq2:=hq hv;obtain ⟨cs,rfl,hsz⟩:=hq2;obtain ⟨fuel,h⟩:=h;obtain ⟨xs,n,_,_,hl,hxs,hf⟩:=DataW.trod_struct Tryz.underlying25 h;have e9:Tryz.prog.cellsOf 25=4:=by kernel_rfl
  rw [e9] at hl;have hl2:cs.toList.length=4:=hl;clear hl e9;obtain ⟨l⟩:=cs;obtain ⟨v0,v1,v2,v3,rfl⟩:=zS hl2;have g0:DataW.trod enc Tryz.prog w base (fun _=>true) held n 3 (List.take (Tryz.prog.cellsOf 3) (List.drop 0 [v0,v1,v2,v3]))=xs[0]? := hf 0 _ rfl;rw [show Tryz.prog.cellsOf 3=1 by kernel_rfl] at g0;have g1:DataW.trod enc Tryz.prog w base (fun _=>true) held n 3 (List.take (Tryz.prog.cellsOf 3) (List.drop 1 [v0,v1,v2,v3]))=xs[1]? := hf 1 _ rfl;rw [show Tryz.prog.cellsOf 3=1 by kernel_rfl] at g1;have g2:DataW.trod enc Tryz.prog w base (fun _=>true) held n 22 (List.take (Tryz.prog.cellsOf 22) (List.drop 2 [v0,v1,v2,v3]))=xs[2]? := hf 2 _ rfl;rw [show Tryz.prog.cellsOf 22=1 by kernel_rfl] at g2;have g3:DataW.trod enc Tryz.prog w base (fun _=>true) held n 23 (List.take (Tryz.prog.cellsOf 23) (List.drop 3 [v0,v1,v2,v3]))=xs[3]? := hf 3 _ rfl;rw [show Tryz.prog.cellsOf 23=1 by kernel_rfl] at g3;have hx:∀ j,j<4→∃ y,xs[j]? = some y:=fun j hj=>⟨_,List.getElem?_eq_getElem (by rw [hxs];exact hj)⟩;obtain ⟨y0,e0⟩:=hx 0 (by omega);obtain ⟨y1,e1⟩:=hx 1 (by omega);obtain ⟨y2,e2⟩:=hx 2 (by omega);obtain ⟨y3,e3⟩:=hx 3 (by omega);rw [e0] at g0;rw [e1] at g1;rw [e2] at g2;rw [e3] at g3;obtain ⟨p,ep,wp⟩:=nV g0;obtain ⟨c,ec,wc⟩:=nV g1;obtain ⟨A2,c2,core,e2',l1,l2,l3,l4⟩:=aaN g2;obtain ⟨A3,c3,odd,e3',m1,m2,m3,m4⟩:=ab7 g3;have ac:[v0]=[.int .i64 p]:=ep;have af:[v1]=[.int .i64 c]:=ec;have aa:[v2]=[.slice A2 core.length c2]:=e2';have ab:[v3]=[.slice A3 odd.length c3]:=e3';injection ac with ac
  injection af with af
  injection aa with aa
  injection ab with ab
  subst ac af aa ab;exact ⟨p,c,A2,c2,core,A3,c3,odd,rfl,l2,l1,m2,m1,⟨wp,wc,l3,m3,l4,m4⟩⟩
end
end Go.Proofs.YtongeknogcboiaaGreat.P
