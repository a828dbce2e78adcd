/- Lemmas for laws of chapter 7: what the functions that they reach compute. No condition of its own. -/
import Derived.Test.YtongeknogcboiaaGreatYK9
import Derived.Test.YtongeknogcboiaaGreatYK12
namespace Go.Proofs.YtongeknogcboiaaGreat.R
open M Go.RowKit Go.Proofs.YtongeknogcboiaaGreatW.gy Go.Proofs.YtongeknogcboiaaGreatW.iE Go.Proofs.YtongeknogcboiaaGreatW.jh
set_option linter.unusedVariables false
noncomputable def iI.m (k:Nat):Sm:=kE [.fm,(.int .i64)] [.pl (.int .i64),.pl .bool] (fun a=>iI.f k a.1.f0 a.1.f1 a.1.f2 a.1.f3 a.2.1)
noncomputable def iI.E (k:Nat):kr:=⟨tL.tb,fun f=>lk f [(111,jO.m k)],fun _=>false⟩
noncomputable def iI.l0.p:PS:=⟨[.one (.s .gr),.one (.i .i64),.one (.fn 111 [])]++nOs 5++[.one (.i .i64),.one (.i .i64),.one (.i .i64)]++nOs 38,[.box 25 [.i .i64,.i .i64,.s (.sl 41 .sp),.s .gr]]⟩
noncomputable def iI.l0.q0:PS:=⟨[.one (.s .gr),.one (.i .i64),.one (.fn 111 [])]++nOs 5++[.one (.i .i64),.one (.i .i64)]++nOs 39,[.box 25 [.i .i64,.i .i64,.s (.sl 41 .sp),.s .gr]]⟩
noncomputable def iI.l0.g {γ:Type} (YK:HdK γ) (k:Nat) (K:gY→St→Option γ):List Lf→Option γ
  | [.l .gr c1,.i c2,.i c3,.i v4,.i v5,.i c6,.i c7,.l (.sl 41 .sp) c8,.l .gr c9]=>iI.l0 (fun y1=>K (.exit 0) (iI.l0.q0.mk' [.l .gr c1,.i c2,.i c3,.i y1,.i c6,.i c7,.l (.sl 41 .sp) c8,.l .gr c9])) c1 c2 c3 c6 c7 c8 c9 k v4 v5
  | _=>none
noncomputable def iI.C {γ:Type}:Ctx γ:=⟨iI.E,[(72,Tryz.f72),(110,Tryz.f110)],fun f=>(lk f [(72,⟨fun d=>jB d [],fun c=>lk c [],fun c=>lk c [],fun _=>none,fun _=>([],[])⟩),(110,⟨fun d=>jB d [],fun c=>lk c [(0,[0,1,2,8,9,10])],fun c=>lk c [(0,[0,1,2,8,9])],fun _=>none,fun _=>([],[])⟩)]).getD ⟨fun _=>false,fun _=>none,fun _=>none,fun _=>none,fun _=>([],[])⟩,[⟨0,110,0,j6 [(iI.l0.p,iI.l0.g)]⟩],[]⟩
theorem iI.l0.eq {γ:Type} (YK:HdK γ) (rl:Option Nat) (K:gY→St→Option γ) (c1:List P.S43) (c2:Int) (c3:Int) (c6:Int) (c7:Int) (c8:List (List P.S41)) (c9:List P.S43):∀ (k:Nat) (v4:Int) (v5:Int),iI.C.lK 0 110 0 Tryz.f110 YK rl 1 k (iI.l0.p.mk' [.l .gr c1,.i c2,.i c3,.i v4,.i v5,.i c6,.i c7,.l (.sl 41 .sp) c8,.l .gr c9]) K=iI.l0 (fun y1=>K (.exit 0) (iI.l0.q0.mk' [.l .gr c1,.i c2,.i c3,.i y1,.i c6,.i c7,.l (.sl 41 .sp) c8,.l .gr c9])) c1 c2 c3 c6 c7 c8 c9 k v4 v5:=by
  intro k;induction k with
  | zero=>intros;rfl
  | succ k ih =>
    intros v4 v5
    exact (show iI.C.lK 0 110 0 Tryz.f110 YK rl 1 (k+1) (iI.l0.p.mk' [.l .gr c1,.i c2,.i c3,.i v4,.i v5,.i c6,.i c7,.l (.sl 41 .sp) c8,.l .gr c9]) K=iI.l0T (fun v4 v5=>iI.C.lK 0 110 0 Tryz.f110 YK rl 1 k (iI.l0.p.mk' [.l .gr c1,.i c2,.i c3,.i v4,.i v5,.i c6,.i c7,.l (.sl 41 .sp) c8,.l .gr c9]) K) (fun y1=>K (.exit 0) (iI.l0.q0.mk' [.l .gr c1,.i c2,.i c3,.i y1,.i c6,.i c7,.l (.sl 41 .sp) c8,.l .gr c9])) c1 c2 c3 c6 c7 c8 c9 k v4 v5 by kernel_rfl).trans (by
      rw [show (fun v4 v5=>iI.C.lK 0 110 0 Tryz.f110 YK rl 1 k (iI.l0.p.mk' [.l .gr c1,.i c2,.i c3,.i v4,.i v5,.i c6,.i c7,.l (.sl 41 .sp) c8,.l .gr c9]) K)=iI.l0 (fun y1=>K (.exit 0) (iI.l0.q0.mk' [.l .gr c1,.i c2,.i c3,.i y1,.i c6,.i c7,.l (.sl 41 .sp) c8,.l .gr c9])) c1 c2 c3 c6 c7 c8 c9 k from by exact funext fun v4=>funext fun v5=>ih v4 v5];rfl)
theorem iI.jk {γ:Type}:(iI.C (γ:=γ)).Ok:=⟨(all_cons (fun k=>by kernel_rfl) (all_cons (fun k=>by kernel_rfl) all_nil)),(all_cons (by kernel_rfl) (all_cons (by kernel_rfl) all_nil)),all_nil⟩
theorem iI.e0 {γ:Type}:ku (iI.C (γ:=γ)) ⟨0,110,0,j6 [(iI.l0.p,iI.l0.g)]⟩:=iI.jk.lpE [] (show lk 110 (iI.C (γ:=γ)).fl=some Tryz.f110 by kernel_rfl) (by kernel_rfl) (by kernel_rfl) (all_cons (fun h=>(Bool.false_ne_true (show false=true from h)).elim) all_nil) (all_cons (fun YK rl k ls K v hv=>(show iI.l0.g YK k K ls=some v→_ from fun hv=>by
  unfold iI.l0.g at hv;split at hv
  · exact (iI.l0.eq YK rl K _ _ _ _ _ _ _ _ _ _).trans hv
  · cases hv) hv) all_nil)
theorem iI.eq (k:Nat) (aa:Int) (ab:Int) (ac:List (List P.S41)) (af:List P.S43) (a1:Int):iI.C.bK 1 72 Tryz.f72 k (iQ [.fm,(.int .i64)] (⟨aa,ab,ac,af⟩,a1,())) (K0 [.pl (.int .i64),.pl .bool])=iI.f k aa ab ac af a1:=by kernel_rfl
theorem iI.ok (k:Nat):kM Tryz.prog 72 (iI.m k).s:=iG (C:=iI.C) iI.jk (n:=1) (fn:=Tryz.f72) mixed (fun _=>jL) nw0 (fun k=>iM (all_cons (jO.ok k) (all_nil))) (all_cons ⟨Tryz.func72,by kernel_rfl⟩ (all_cons ⟨Tryz.func110,by kernel_rfl⟩ all_nil)) (all_cons iI.e0 all_nil) (by kernel_rfl) (by kernel_rfl) (fun ⟨⟨aa,ab,ac,af⟩,a1,_⟩ x h=>⟨k,(iI.eq k aa ab ac af a1).trans h⟩)
noncomputable def bits_Mul64.m (k:Nat):Sm:=kE [(.int .u64),(.int .u64)] [.pl (.int .u64),.pl (.int .u64)] (fun a=>bits_Mul64.f k a.1 a.2.1)
noncomputable def bits_Mul64.E (k:Nat):kr:=⟨tL.tb,fun f=>lk f [],fun _=>false⟩
noncomputable def bits_Mul64.C {γ:Type}:Ctx γ:=⟨bits_Mul64.E,[(113,Tryz.f113)],fun f=>(lk f [(113,⟨fun d=>jB d [],fun c=>lk c [],fun c=>lk c [],fun _=>none,fun _=>([],[])⟩)]).getD ⟨fun _=>false,fun _=>none,fun _=>none,fun _=>none,fun _=>([],[])⟩,[],[]⟩
theorem bits_Mul64.jk {γ:Type}:(bits_Mul64.C (γ:=γ)).Ok:=⟨(all_cons (fun k=>by kernel_rfl) all_nil),(all_cons (by kernel_rfl) all_nil),all_nil⟩
theorem bits_Mul64.eq (k:Nat) (a0:Int) (a1:Int):bits_Mul64.C.bK 0 113 Tryz.f113 k (iQ [(.int .u64),(.int .u64)] (a0,a1,())) (K0 [.pl (.int .u64),.pl (.int .u64)])=bits_Mul64.f k a0 a1:=by kernel_rfl
theorem bits_Mul64.ok (k:Nat):kM Tryz.prog 113 (bits_Mul64.m k).s:=iG (C:=bits_Mul64.C) bits_Mul64.jk (n:=0) (fn:=Tryz.f113) mixed (fun _=>jL) nw0 (fun k=>iM (all_nil)) (all_cons ⟨Tryz.func113,by kernel_rfl⟩ all_nil) all_nil (by kernel_rfl) (by kernel_rfl) (fun ⟨a0,a1,_⟩ x h=>⟨k,(bits_Mul64.eq k a0 a1).trans h⟩)
noncomputable def jM.m (k:Nat):Sm:=kE [(.int .i64)] [.pl (.int .u64)] (fun a=>jM.f k a.1)
noncomputable def jM.E (k:Nat):kr:=⟨tL.tb,fun f=>lk f [],fun _=>false⟩
noncomputable def jM.C {γ:Type}:Ctx γ:=⟨jM.E,[(114,Tryz.f114)],fun f=>(lk f [(114,⟨fun d=>jB d [],fun c=>lk c [],fun c=>lk c [],fun _=>none,fun _=>([],[])⟩)]).getD ⟨fun _=>false,fun _=>none,fun _=>none,fun _=>none,fun _=>([],[])⟩,[],[]⟩
theorem jM.jk {γ:Type}:(jM.C (γ:=γ)).Ok:=⟨(all_cons (fun k=>by kernel_rfl) all_nil),(all_cons (by kernel_rfl) all_nil),all_nil⟩
theorem jM.eq (k:Nat) (a0:Int):jM.C.bK 0 114 Tryz.f114 k (iQ [(.int .i64)] (a0,())) (K0 [.pl (.int .u64)])=jM.f k a0:=by kernel_rfl
theorem jM.ok (k:Nat):kM Tryz.prog 114 (jM.m k).s:=iG (C:=jM.C) jM.jk (n:=0) (fn:=Tryz.f114) mixed (fun _=>jL) nw0 (fun k=>iM (all_nil)) (all_cons ⟨Tryz.func114,by kernel_rfl⟩ all_nil) all_nil (by kernel_rfl) (by kernel_rfl) (fun ⟨a0,_⟩ x h=>⟨k,(jM.eq k a0).trans h⟩)
noncomputable def jl.m (k:Nat):Sm:=kE [(.int .u64),.bool] [.pl (.int .i64),.pl (.int .i64)] (fun a=>jl.f k a.1 a.2.1)
noncomputable def jl.E (k:Nat):kr:=⟨tL.tb,fun f=>lk f [],fun _=>false⟩
noncomputable def jl.C {γ:Type}:Ctx γ:=⟨jl.E,[(115,Tryz.f115)],fun f=>(lk f [(115,⟨fun d=>jB d [],fun c=>lk c [],fun c=>lk c [],fun _=>none,fun _=>([],[])⟩)]).getD ⟨fun _=>false,fun _=>none,fun _=>none,fun _=>none,fun _=>([],[])⟩,[],[]⟩
theorem jl.jk {γ:Type}:(jl.C (γ:=γ)).Ok:=⟨(all_cons (fun k=>by kernel_rfl) all_nil),(all_cons (by kernel_rfl) all_nil),all_nil⟩
theorem jl.eq (k:Nat) (a0:Int) (a1:Bool):jl.C.bK 0 115 Tryz.f115 k (iQ [(.int .u64),.bool] (a0,a1,())) (K0 [.pl (.int .i64),.pl (.int .i64)])=jl.f k a0 a1:=by kernel_rfl
theorem jl.ok (k:Nat):kM Tryz.prog 115 (jl.m k).s:=iG (C:=jl.C) jl.jk (n:=0) (fn:=Tryz.f115) mixed (fun _=>jL) nw0 (fun k=>iM (all_nil)) (all_cons ⟨Tryz.func115,by kernel_rfl⟩ all_nil) all_nil (by kernel_rfl) (by kernel_rfl) (fun ⟨a0,a1,_⟩ x h=>⟨k,(jl.eq k a0 a1).trans h⟩)
noncomputable def jX.m (k:Nat):Sm:=kE [(.int .i64),(.int .i64)] [.pl (.int .i64),.pl (.int .i64)] (fun a=>jX.f k a.1 a.2.1)
noncomputable def jX.E (k:Nat):kr:=⟨tL.tb,fun f=>lk f [(113,bits_Mul64.m k),(114,jM.m k),(115,jl.m k)],fun _=>false⟩
noncomputable def jX.C {γ:Type}:Ctx γ:=⟨jX.E,[(73,Tryz.f73)],fun f=>(lk f [(73,⟨fun d=>jB d [],fun c=>lk c [],fun c=>lk c [],fun _=>none,fun _=>([],[])⟩)]).getD ⟨fun _=>false,fun _=>none,fun _=>none,fun _=>none,fun _=>([],[])⟩,[],[]⟩
theorem jX.jk {γ:Type}:(jX.C (γ:=γ)).Ok:=⟨(all_cons (fun k=>by kernel_rfl) all_nil),(all_cons (by kernel_rfl) all_nil),all_nil⟩
theorem jX.eq (k:Nat) (a0:Int) (a1:Int):jX.C.bK 0 73 Tryz.f73 k (iQ [(.int .i64),(.int .i64)] (a0,a1,())) (K0 [.pl (.int .i64),.pl (.int .i64)])=jX.f k a0 a1:=by kernel_rfl
theorem jX.ok (k:Nat):kM Tryz.prog 73 (jX.m k).s:=iG (C:=jX.C) jX.jk (n:=0) (fn:=Tryz.f73) mixed (fun _=>jL) nw0 (fun k=>iM (all_cons (bits_Mul64.ok k) (all_cons (jM.ok k) (all_cons (jl.ok k) (all_nil))))) (all_cons ⟨Tryz.func73,by kernel_rfl⟩ all_nil) all_nil (by kernel_rfl) (by kernel_rfl) (fun ⟨a0,a1,_⟩ x h=>⟨k,(jX.eq k a0 a1).trans h⟩)
noncomputable def jV.m (k:Nat):Sm:=kE [.fm,(.int .i64)] [.pl (.sl 41 .sp),.pl (.int .i64),.pl (.int .i64)] (fun a=>jV.f k a.1.f0 a.1.f1 a.1.f2 a.1.f3 a.2.1)
noncomputable def jV.E (k:Nat):kr:=⟨tL.tb,fun f=>lk f [(46,iY.m k),(72,iI.m k),(73,jX.m k)],fun _=>false⟩
noncomputable def jV.C {γ:Type}:Ctx γ:=⟨jV.E,[(38,Tryz.f38)],fun f=>(lk f [(38,⟨fun d=>jB d [],fun c=>lk c [],fun c=>lk c [],fun _=>none,fun _=>([],[])⟩)]).getD ⟨fun _=>false,fun _=>none,fun _=>none,fun _=>none,fun _=>([],[])⟩,[],[]⟩
theorem jV.jk {γ:Type}:(jV.C (γ:=γ)).Ok:=⟨(all_cons (fun k=>by kernel_rfl) all_nil),(all_cons (by kernel_rfl) all_nil),all_nil⟩
theorem jV.eq (k:Nat) (aa:Int) (ab:Int) (ac:List (List P.S41)) (af:List P.S43) (a1:Int):jV.C.bK 0 38 Tryz.f38 k (iQ [.fm,(.int .i64)] (⟨aa,ab,ac,af⟩,a1,())) (K0 [.pl (.sl 41 .sp),.pl (.int .i64),.pl (.int .i64)])=jV.f k aa ab ac af a1:=by kernel_rfl
theorem jV.ok (k:Nat):kM Tryz.prog 38 (jV.m k).s:=iG (C:=jV.C) jV.jk (n:=0) (fn:=Tryz.f38) mixed (fun _=>jL) nw0 (fun k=>iM (all_cons (iY.ok k) (all_cons (iI.ok k) (all_cons (jX.ok k) (all_nil))))) (all_cons ⟨Tryz.func38,by kernel_rfl⟩ all_nil) all_nil (by kernel_rfl) (by kernel_rfl) (fun ⟨⟨aa,ab,ac,af⟩,a1,_⟩ x h=>⟨k,(jV.eq k aa ab ac af a1).trans h⟩)
noncomputable def kg.m (k:Nat):Sm:=kE [(.int .i64),(.int .i64)] [.pl (.int .i64),.pl (.int .i64)] (fun a=>kg.f k a.1 a.2.1)
noncomputable def kg.E (k:Nat):kr:=⟨tL.tb,fun f=>lk f [],fun _=>false⟩
noncomputable def kg.C {γ:Type}:Ctx γ:=⟨kg.E,[(74,Tryz.f74)],fun f=>(lk f [(74,⟨fun d=>jB d [],fun c=>lk c [],fun c=>lk c [],fun _=>none,fun _=>([],[])⟩)]).getD ⟨fun _=>false,fun _=>none,fun _=>none,fun _=>none,fun _=>([],[])⟩,[],[]⟩
theorem kg.jk {γ:Type}:(kg.C (γ:=γ)).Ok:=⟨(all_cons (fun k=>by kernel_rfl) all_nil),(all_cons (by kernel_rfl) all_nil),all_nil⟩
theorem kg.eq (k:Nat) (a0:Int) (a1:Int):kg.C.bK 0 74 Tryz.f74 k (iQ [(.int .i64),(.int .i64)] (a0,a1,())) (K0 [.pl (.int .i64),.pl (.int .i64)])=kg.f k a0 a1:=by kernel_rfl
theorem kg.ok (k:Nat):kM Tryz.prog 74 (kg.m k).s:=iG (C:=kg.C) kg.jk (n:=0) (fn:=Tryz.f74) mixed (fun _=>jL) nw0 (fun k=>iM (all_nil)) (all_cons ⟨Tryz.func74,by kernel_rfl⟩ all_nil) all_nil (by kernel_rfl) (by kernel_rfl) (fun ⟨a0,a1,_⟩ x h=>⟨k,(kg.eq k a0 a1).trans h⟩)
noncomputable def gV.m (k:Nat):Sm:=kE [(.sl 41 .sp),(.int .i64)] [.own 41 .sp,.pl (.int .i64)] (fun a=>gV.f k a.1 a.2.1)
noncomputable def gV.E (k:Nat):kr:=⟨tL.tb,fun f=>lk f [(74,kg.m k),(75,jA.m k)],fun _=>false⟩
noncomputable def gV.l0.p:PS:=⟨[nO,.one (.i .i64)]++nOs 4++[.one (.o 41 .sp)]++nOs 6++[.one (.s .sp),.one (.i .i64),.one (.i .i64)]++nOs 41,[]⟩
noncomputable def gV.l0.q0:PS:=⟨nOs 4++[.one (.lo 41 .sp),.one (.li .i64 20),.one (.o 41 .sp)]++nOs 50,[]⟩
noncomputable def gV.l0.q1:PS:=⟨nOs 6++[.one (.o 41 .sp)]++nOs 50,[]⟩
noncomputable def gV.l0.g {γ:Type} (YK:HdK γ) (k:Nat) (K:gY→St→Option γ):List Lf→Option γ
  | [.i c1,.l .sp v2,.l .sp c3,.i c4,.i v5]=>gV.l0 (fun y1=>K .ret (gV.l0.q0.mk' [.l .sp y1])) (fun y1=>K (.exit 0) (gV.l0.q1.mk' [.l .sp y1])) c1 c3 c4 k v2 v5
  | _=>none
noncomputable def gV.C {γ:Type}:Ctx γ:=⟨gV.E,[(39,Tryz.f39)],fun f=>(lk f [(39,⟨fun d=>jB d [49,56],fun c=>lk c [(0,[1,6,13,14,15])],fun c=>lk c [(0,[4,5,6])],fun _=>none,fun _=>([],[])⟩)]).getD ⟨fun _=>false,fun _=>none,fun _=>none,fun _=>none,fun _=>([],[])⟩,[⟨0,39,0,j6 [(gV.l0.p,gV.l0.g)]⟩],[]⟩
theorem gV.l0.eq {γ:Type} (YK:HdK γ) (rl:Option Nat) (K:gY→St→Option γ) (c1:Int) (c3:List P.S41) (c4:Int):∀ (k:Nat) (v2:List P.S41) (v5:Int),gV.C.lK 0 39 0 Tryz.f39 YK rl 0 k (gV.l0.p.mk' [.i c1,.l .sp v2,.l .sp c3,.i c4,.i v5]) K=gV.l0 (fun y1=>K .ret (gV.l0.q0.mk' [.l .sp y1])) (fun y1=>K (.exit 0) (gV.l0.q1.mk' [.l .sp y1])) c1 c3 c4 k v2 v5:=by
  intro k;induction k with
  | zero=>intros;rfl
  | succ k ih =>
    intros v2 v5
    exact (show gV.C.lK 0 39 0 Tryz.f39 YK rl 0 (k+1) (gV.l0.p.mk' [.i c1,.l .sp v2,.l .sp c3,.i c4,.i v5]) K=gV.l0T (fun v2 v5=>gV.C.lK 0 39 0 Tryz.f39 YK rl 0 k (gV.l0.p.mk' [.i c1,.l .sp v2,.l .sp c3,.i c4,.i v5]) K) (fun y1=>K .ret (gV.l0.q0.mk' [.l .sp y1])) (fun y1=>K (.exit 0) (gV.l0.q1.mk' [.l .sp y1])) c1 c3 c4 k v2 v5 by kernel_rfl).trans (by
      rw [show (fun v2 v5=>gV.C.lK 0 39 0 Tryz.f39 YK rl 0 k (gV.l0.p.mk' [.i c1,.l .sp v2,.l .sp c3,.i c4,.i v5]) K)=gV.l0 (fun y1=>K .ret (gV.l0.q0.mk' [.l .sp y1])) (fun y1=>K (.exit 0) (gV.l0.q1.mk' [.l .sp y1])) c1 c3 c4 k from by exact funext fun v2=>funext fun v5=>ih v2 v5];rfl)
theorem gV.jk {γ:Type}:(gV.C (γ:=γ)).Ok:=⟨(all_cons (fun k=>by kernel_rfl) all_nil),(all_cons (by kernel_rfl) all_nil),all_nil⟩
theorem gV.e0 {γ:Type}:ku (gV.C (γ:=γ)) ⟨0,39,0,j6 [(gV.l0.p,gV.l0.g)]⟩:=gV.jk.lpE [] (show lk 39 (gV.C (γ:=γ)).fl=some Tryz.f39 by kernel_rfl) (by kernel_rfl) (by kernel_rfl) (all_cons (fun h=>(Bool.false_ne_true (show false=true from h)).elim) all_nil) (all_cons (fun YK rl k ls K v hv=>(show gV.l0.g YK k K ls=some v→_ from fun hv=>by
  unfold gV.l0.g at hv;split at hv
  · exact (gV.l0.eq YK rl K _ _ _ _ _ _).trans hv
  · cases hv) hv) all_nil)
theorem gV.eq (k:Nat) (a0:List P.S41) (a1:Int):gV.C.bK 0 39 Tryz.f39 k (iQ [(.sl 41 .sp),(.int .i64)] (a0,a1,())) (K0 [.own 41 .sp,.pl (.int .i64)])=gV.f k a0 a1:=by kernel_rfl
theorem gV.ok (k:Nat):kM Tryz.prog 39 (gV.m k).s:=iG (C:=gV.C) gV.jk (n:=0) (fn:=Tryz.f39) mixed (fun _=>jL) nw0 (fun k=>iM (all_cons (kg.ok k) (all_cons (jA.ok k) (all_nil)))) (all_cons ⟨Tryz.func39,by kernel_rfl⟩ all_nil) (all_cons gV.e0 all_nil) (by kernel_rfl) (by kernel_rfl) (fun ⟨a0,a1,_⟩ x h=>⟨k,(gV.eq k a0 a1).trans h⟩)
noncomputable def iW.m (k:Nat):Sm:=kE [.fm,(.int .i64)] [.own 41 .sp,.pl (.int .i64)] (fun a=>iW.f k a.1.f0 a.1.f1 a.1.f2 a.1.f3 a.2.1)
noncomputable def iW.E (k:Nat):kr:=⟨tL.tb,fun f=>lk f [(37,jd.m k),(38,jV.m k),(39,gV.m k)],fun _=>false⟩
noncomputable def iW.C {γ:Type}:Ctx γ:=⟨iW.E,[(11,Tryz.f11)],fun f=>(lk f [(11,⟨fun d=>jB d [27],fun c=>lk c [],fun c=>lk c [],fun _=>none,fun _=>([],[])⟩)]).getD ⟨fun _=>false,fun _=>none,fun _=>none,fun _=>none,fun _=>([],[])⟩,[],[]⟩
theorem iW.jk {γ:Type}:(iW.C (γ:=γ)).Ok:=⟨(all_cons (fun k=>by kernel_rfl) all_nil),(all_cons (by kernel_rfl) all_nil),all_nil⟩
theorem iW.eq (k:Nat) (aa:Int) (ab:Int) (ac:List (List P.S41)) (af:List P.S43) (a1:Int):iW.C.bK 0 11 Tryz.f11 k (iQ [.fm,(.int .i64)] (⟨aa,ab,ac,af⟩,a1,())) (K0 [.own 41 .sp,.pl (.int .i64)])=iW.f k aa ab ac af a1:=by kernel_rfl
theorem iW.ok (k:Nat):kM Tryz.prog 11 (iW.m k).s:=iG (C:=iW.C) iW.jk (n:=0) (fn:=Tryz.f11) mixed (fun _=>jL) nw0 (fun k=>iM (all_cons (jd.ok k) (all_cons (jV.ok k) (all_cons (gV.ok k) (all_nil))))) (all_cons ⟨Tryz.func11,by kernel_rfl⟩ all_nil) all_nil (by kernel_rfl) (by kernel_rfl) (fun ⟨⟨aa,ab,ac,af⟩,a1,_⟩ x h=>⟨k,(iW.eq k aa ab ac af a1).trans h⟩)
noncomputable def jE.m (k:Nat):Sm:=kE [(.sl 41 .sp)] [.pl .bool] (fun a=>jE.f k a.1)
noncomputable def jE.E (k:Nat):kr:=⟨tL.tb,fun f=>lk f [],fun _=>false⟩
noncomputable def jE.C {γ:Type}:Ctx γ:=⟨jE.E,[(158,Tryz.f158)],fun f=>(lk f [(158,⟨fun d=>jB d [],fun c=>lk c [],fun c=>lk c [],fun _=>none,fun _=>([],[])⟩)]).getD ⟨fun _=>false,fun _=>none,fun _=>none,fun _=>none,fun _=>([],[])⟩,[],[]⟩
theorem jE.jk {γ:Type}:(jE.C (γ:=γ)).Ok:=⟨(all_cons (fun k=>by kernel_rfl) all_nil),(all_cons (by kernel_rfl) all_nil),all_nil⟩
theorem jE.eq (k:Nat) (a0:List P.S41):jE.C.bK 0 158 Tryz.f158 k (iQ [(.sl 41 .sp)] (a0,())) (K0 [.pl .bool])=jE.f k a0:=by kernel_rfl
theorem jE.ok (k:Nat):kM Tryz.prog 158 (jE.m k).s:=iG (C:=jE.C) jE.jk (n:=0) (fn:=Tryz.f158) mixed (fun _=>jL) nw0 (fun k=>iM (all_nil)) (all_cons ⟨Tryz.func158,by kernel_rfl⟩ all_nil) all_nil (by kernel_rfl) (by kernel_rfl) (fun ⟨a0,_⟩ x h=>⟨k,(jE.eq k a0).trans h⟩)
noncomputable def iA.m (k:Nat):Sm:=kE [.fm] [.pl .bool] (fun a=>iA.f k a.1.f0 a.1.f1 a.1.f2 a.1.f3)
noncomputable def iA.E (k:Nat):kr:=⟨tL.tb,fun f=>lk f [(158,jE.m k)],fun _=>false⟩
noncomputable def iA.l0.p:PS:=⟨[.one (.s (.sl 41 .sp)),.one (.fn 158 [])]++nOs 5++[.one (.i .i64),.one (.i .i64)]++nOs 10,[.box 25 [.i .i64,.i .i64,.s (.sl 41 .sp),.s .gr]]⟩
noncomputable def iA.l0.q0:PS:=⟨nOs 4++[.one (.i .i64)]++nOs 14,[.box 25 [.i .i64,.i .i64,.s (.sl 41 .sp),.s .gr]]⟩
noncomputable def iA.l0.q1:PS:=⟨nOs 19,[.box 25 [.i .i64,.i .i64,.s (.sl 41 .sp),.s .gr]]⟩
noncomputable def iA.l0.g {γ:Type} (YK:HdK γ) (k:Nat) (K:gY→St→Option γ):List Lf→Option γ
  | [.l (.sl 41 .sp) c1,.i c2,.i v3,.i c4,.i c5,.l (.sl 41 .sp) c6,.l .gr c7]=>iA.l0 (fun y1=>K .ret (iA.l0.q0.mk' [.i y1,.i c4,.i c5,.l (.sl 41 .sp) c6,.l .gr c7])) (K (.exit 0) (iA.l0.q1.mk' [.i c4,.i c5,.l (.sl 41 .sp) c6,.l .gr c7])) c1 c2 c4 c5 c6 c7 k v3
  | _=>none
noncomputable def iA.C {γ:Type}:Ctx γ:=⟨iA.E,[(132,Tryz.f132),(157,Tryz.f157),(170,Tryz.f170)],fun f=>(lk f [(132,⟨fun d=>jB d [],fun c=>lk c [],fun c=>lk c [],fun _=>none,fun _=>([],[])⟩),(157,⟨fun d=>jB d [],fun c=>lk c [],fun c=>lk c [],fun _=>none,fun _=>([],[])⟩),(170,⟨fun d=>jB d [],fun c=>lk c [(0,[0,1,7,8])],fun c=>lk c [(0,[4])],fun _=>none,fun _=>([],[])⟩)]).getD ⟨fun _=>false,fun _=>none,fun _=>none,fun _=>none,fun _=>([],[])⟩,[⟨0,170,0,j6 [(iA.l0.p,iA.l0.g)]⟩],[]⟩
theorem iA.l0.eq {γ:Type} (YK:HdK γ) (rl:Option Nat) (K:gY→St→Option γ) (c1:List (List P.S41)) (c2:Int) (c4:Int) (c5:Int) (c6:List (List P.S41)) (c7:List P.S43):∀ (k:Nat) (v3:Int),iA.C.lK 0 170 0 Tryz.f170 YK rl 1 k (iA.l0.p.mk' [.l (.sl 41 .sp) c1,.i c2,.i v3,.i c4,.i c5,.l (.sl 41 .sp) c6,.l .gr c7]) K=iA.l0 (fun y1=>K .ret (iA.l0.q0.mk' [.i y1,.i c4,.i c5,.l (.sl 41 .sp) c6,.l .gr c7])) (K (.exit 0) (iA.l0.q1.mk' [.i c4,.i c5,.l (.sl 41 .sp) c6,.l .gr c7])) c1 c2 c4 c5 c6 c7 k v3:=by
  intro k;induction k with
  | zero=>intros;rfl
  | succ k ih =>
    intros v3
    exact (show iA.C.lK 0 170 0 Tryz.f170 YK rl 1 (k+1) (iA.l0.p.mk' [.l (.sl 41 .sp) c1,.i c2,.i v3,.i c4,.i c5,.l (.sl 41 .sp) c6,.l .gr c7]) K=iA.l0T (fun v3=>iA.C.lK 0 170 0 Tryz.f170 YK rl 1 k (iA.l0.p.mk' [.l (.sl 41 .sp) c1,.i c2,.i v3,.i c4,.i c5,.l (.sl 41 .sp) c6,.l .gr c7]) K) (fun y1=>K .ret (iA.l0.q0.mk' [.i y1,.i c4,.i c5,.l (.sl 41 .sp) c6,.l .gr c7])) (K (.exit 0) (iA.l0.q1.mk' [.i c4,.i c5,.l (.sl 41 .sp) c6,.l .gr c7])) c1 c2 c4 c5 c6 c7 k v3 by kernel_rfl).trans (by
      rw [show (fun v3=>iA.C.lK 0 170 0 Tryz.f170 YK rl 1 k (iA.l0.p.mk' [.l (.sl 41 .sp) c1,.i c2,.i v3,.i c4,.i c5,.l (.sl 41 .sp) c6,.l .gr c7]) K)=iA.l0 (fun y1=>K .ret (iA.l0.q0.mk' [.i y1,.i c4,.i c5,.l (.sl 41 .sp) c6,.l .gr c7])) (K (.exit 0) (iA.l0.q1.mk' [.i c4,.i c5,.l (.sl 41 .sp) c6,.l .gr c7])) c1 c2 c4 c5 c6 c7 k from by exact funext fun v3=>ih v3];rfl)
theorem iA.jk {γ:Type}:(iA.C (γ:=γ)).Ok:=⟨(all_cons (fun k=>by kernel_rfl) (all_cons (fun k=>by kernel_rfl) (all_cons (fun k=>by kernel_rfl) all_nil))),(all_cons (by kernel_rfl) (all_cons (by kernel_rfl) (all_cons (by kernel_rfl) all_nil))),all_nil⟩
theorem iA.e0 {γ:Type}:ku (iA.C (γ:=γ)) ⟨0,170,0,j6 [(iA.l0.p,iA.l0.g)]⟩:=iA.jk.lpE [] (show lk 170 (iA.C (γ:=γ)).fl=some Tryz.f170 by kernel_rfl) (by kernel_rfl) (by kernel_rfl) (all_cons (fun h=>(Bool.false_ne_true (show false=true from h)).elim) all_nil) (all_cons (fun YK rl k ls K v hv=>(show iA.l0.g YK k K ls=some v→_ from fun hv=>by
  unfold iA.l0.g at hv;split at hv
  · exact (iA.l0.eq YK rl K _ _ _ _ _ _ _ _).trans hv
  · cases hv) hv) all_nil)
theorem iA.eq (k:Nat) (aa:Int) (ab:Int) (ac:List (List P.S41)) (af:List P.S43):iA.C.bK 2 132 Tryz.f132 k (iQ [.fm] (⟨aa,ab,ac,af⟩,())) (K0 [.pl .bool])=iA.f k aa ab ac af:=by kernel_rfl
theorem iA.ok (k:Nat):kM Tryz.prog 132 (iA.m k).s:=iG (C:=iA.C) iA.jk (n:=2) (fn:=Tryz.f132) mixed (fun _=>jL) nw0 (fun k=>iM (all_cons (jE.ok k) (all_nil))) (all_cons ⟨Tryz.func132,by kernel_rfl⟩ (all_cons ⟨Tryz.func157,by kernel_rfl⟩ (all_cons ⟨Tryz.func170,by kernel_rfl⟩ all_nil))) (all_cons iA.e0 all_nil) (by kernel_rfl) (by kernel_rfl) (fun ⟨⟨aa,ab,ac,af⟩,_⟩ x h=>⟨k,(iA.eq k aa ab ac af).trans h⟩)
noncomputable def j4.m (k:Nat):Sm:=kE [.fm,(.int .i64)] [.pl .bool] (fun a=>j4.f k a.1.f0 a.1.f1 a.1.f2 a.1.f3 a.2.1)
noncomputable def j4.E (k:Nat):kr:=⟨tL.tb,fun f=>lk f [(38,jV.m k)],fun _=>false⟩
noncomputable def j4.C {γ:Type}:Ctx γ:=⟨j4.E,[(133,Tryz.f133)],fun f=>(lk f [(133,⟨fun d=>jB d [],fun c=>lk c [],fun c=>lk c [],fun _=>none,fun _=>([],[])⟩)]).getD ⟨fun _=>false,fun _=>none,fun _=>none,fun _=>none,fun _=>([],[])⟩,[],[]⟩
theorem j4.jk {γ:Type}:(j4.C (γ:=γ)).Ok:=⟨(all_cons (fun k=>by kernel_rfl) all_nil),(all_cons (by kernel_rfl) all_nil),all_nil⟩
theorem j4.eq (k:Nat) (aa:Int) (ab:Int) (ac:List (List P.S41)) (af:List P.S43) (a1:Int):j4.C.bK 0 133 Tryz.f133 k (iQ [.fm,(.int .i64)] (⟨aa,ab,ac,af⟩,a1,())) (K0 [.pl .bool])=j4.f k aa ab ac af a1:=by kernel_rfl
theorem j4.ok (k:Nat):kM Tryz.prog 133 (j4.m k).s:=iG (C:=j4.C) j4.jk (n:=0) (fn:=Tryz.f133) mixed (fun _=>jL) nw0 (fun k=>iM (all_cons (jV.ok k) (all_nil))) (all_cons ⟨Tryz.func133,by kernel_rfl⟩ all_nil) all_nil (by kernel_rfl) (by kernel_rfl) (fun ⟨⟨aa,ab,ac,af⟩,a1,_⟩ x h=>⟨k,(j4.eq k aa ab ac af a1).trans h⟩)
noncomputable def fM.m (k:Nat):Sm:=kE [.fm,(.int .i64),(.int .i64)] [.pl (.int .i64),.pl .bool] (fun a=>fM.f k a.1.f0 a.1.f1 a.1.f2 a.1.f3 a.2.1 a.2.2.1)
noncomputable def fM.E (k:Nat):kr:=⟨tL.tb,fun f=>lk f [(37,jd.m k),(72,iI.m k),(132,iA.m k),(133,j4.m k)],fun _=>false⟩
noncomputable def fM.l1.p:PS:=⟨[nO,nO,.one (.i .i64),.one (.bp 0 0)]++nOs 4++[.one (.i .i64)]++nOs 54,[.box 25 [.i .i64,.i .i64,.s (.sl 41 .sp),.s .gr]]⟩
noncomputable def fM.l1.q0:PS:=⟨nOs 6++[.one (.i .i64),.one (.lb true)]++nOs 55,[.box 25 [.i .i64,.i .i64,.s (.sl 41 .sp),.s .gr]]⟩
noncomputable def fM.l1.q1:PS:=⟨nOs 63,[.box 25 [.i .i64,.i .i64,.s (.sl 41 .sp),.s .gr]]⟩
noncomputable def fM.l1.g {γ:Type} (YK:HdK γ) (k:Nat) (K:gY→St→Option γ):List Lf→Option γ
  | [.i c1,.i v2,.i c3,.i c4,.l (.sl 41 .sp) c5,.l .gr c6]=>fM.l1 (fun y1=>K .ret (fM.l1.q0.mk' [.i y1,.i c3,.i c4,.l (.sl 41 .sp) c5,.l .gr c6])) (K (.exit 0) (fM.l1.q1.mk' [.i c3,.i c4,.l (.sl 41 .sp) c5,.l .gr c6])) c1 c3 c4 c5 c6 k v2
  | _=>none
noncomputable def fM.l0.p:PS:=⟨[nO,nO,.one (.i .i64),.one (.bp 0 0)]++nOs 4++[.one (.i .i64)]++nOs 54,[.box 25 [.i .i64,.i .i64,.s (.sl 41 .sp),.s .gr]]⟩
noncomputable def fM.l0.q0:PS:=⟨nOs 6++[.one (.i .i64),.one (.lb true)]++nOs 55,[.box 25 [.i .i64,.i .i64,.s (.sl 41 .sp),.s .gr]]⟩
noncomputable def fM.l0.q1:PS:=⟨nOs 6++[.one (.li .i64 0),.one (.lb false)]++nOs 55,[.box 25 [.i .i64,.i .i64,.s (.sl 41 .sp),.s .gr]]⟩
noncomputable def fM.l0.g {γ:Type} (YK:HdK γ) (k:Nat) (K:gY→St→Option γ):List Lf→Option γ
  | [.i v1,.i v2,.i v3,.i v4,.l (.sl 41 .sp) v5,.l .gr v6]=>fM.l0 (fun y1 y2 y3 y4 y5=>K .ret (fM.l0.q0.mk' [.i y1,.i y2,.i y3,.l (.sl 41 .sp) y4,.l .gr y5])) (fun y1 y2 y3 y4=>K .ret (fM.l0.q1.mk' [.i y1,.i y2,.l (.sl 41 .sp) y3,.l .gr y4]))  k v1 v2 v3 v4 v5 v6
  | _=>none
noncomputable def fM.l2.p:PS:=⟨[nO,nO,.one (.i .i64),.one (.bp 0 0)]++nOs 6++[.one (.i .i64)]++nOs 52,[.box 25 [.i .i64,.i .i64,.s (.sl 41 .sp),.s .gr]]⟩
noncomputable def fM.l2.q0:PS:=⟨nOs 6++[.one (.i .i64),.one (.lb true)]++nOs 55,[.box 25 [.i .i64,.i .i64,.s (.sl 41 .sp),.s .gr]]⟩
noncomputable def fM.l2.q1:PS:=⟨nOs 63,[.box 25 [.i .i64,.i .i64,.s (.sl 41 .sp),.s .gr]]⟩
noncomputable def fM.l2.g {γ:Type} (YK:HdK γ) (k:Nat) (K:gY→St→Option γ):List Lf→Option γ
  | [.i c1,.i v2,.i c3,.i c4,.l (.sl 41 .sp) c5,.l .gr c6]=>fM.l2 (fun y1=>K .ret (fM.l2.q0.mk' [.i y1,.i c3,.i c4,.l (.sl 41 .sp) c5,.l .gr c6])) (K (.exit 2) (fM.l2.q1.mk' [.i c3,.i c4,.l (.sl 41 .sp) c5,.l .gr c6])) c1 c3 c4 c5 c6 k v2
  | _=>none
noncomputable def fM.C {γ:Type}:Ctx γ:=⟨fM.E,[(99,Tryz.f99)],fun f=>(lk f [(99,⟨fun d=>jB d [],fun c=>lk c [(0,[2,3,8]),(2,[2,3,10]),(1000002,[2,3,8])],fun c=>lk c [(0,[6,7]),(2,[6,7]),(1000002,[1,2,3,6,7])],fun _=>none,fun _=>([],[])⟩)]).getD ⟨fun _=>false,fun _=>none,fun _=>none,fun _=>none,fun _=>([],[])⟩,[⟨0,99,0,j6 [(fM.l1.p,fM.l1.g)]⟩,⟨0,99,1000002,j6 [(fM.l0.p,fM.l0.g)]⟩,⟨0,99,2,j6 [(fM.l2.p,fM.l2.g)]⟩],[]⟩
theorem fM.l1.eq {γ:Type} (YK:HdK γ) (rl:Option Nat) (K:gY→St→Option γ) (c1:Int) (c3:Int) (c4:Int) (c5:List (List P.S41)) (c6:List P.S43):∀ (k:Nat) (v2:Int),fM.C.lK 0 99 0 Tryz.f99 YK rl 1 k (fM.l1.p.mk' [.i c1,.i v2,.i c3,.i c4,.l (.sl 41 .sp) c5,.l .gr c6]) K=fM.l1 (fun y1=>K .ret (fM.l1.q0.mk' [.i y1,.i c3,.i c4,.l (.sl 41 .sp) c5,.l .gr c6])) (K (.exit 0) (fM.l1.q1.mk' [.i c3,.i c4,.l (.sl 41 .sp) c5,.l .gr c6])) c1 c3 c4 c5 c6 k v2:=by
  intro k;induction k with
  | zero=>intros;rfl
  | succ k ih =>
    intros v2
    exact (show fM.C.lK 0 99 0 Tryz.f99 YK rl 1 (k+1) (fM.l1.p.mk' [.i c1,.i v2,.i c3,.i c4,.l (.sl 41 .sp) c5,.l .gr c6]) K=fM.l1T (fun v2=>fM.C.lK 0 99 0 Tryz.f99 YK rl 1 k (fM.l1.p.mk' [.i c1,.i v2,.i c3,.i c4,.l (.sl 41 .sp) c5,.l .gr c6]) K) (fun y1=>K .ret (fM.l1.q0.mk' [.i y1,.i c3,.i c4,.l (.sl 41 .sp) c5,.l .gr c6])) (K (.exit 0) (fM.l1.q1.mk' [.i c3,.i c4,.l (.sl 41 .sp) c5,.l .gr c6])) c1 c3 c4 c5 c6 k v2 by kernel_rfl).trans (by
      rw [show (fun v2=>fM.C.lK 0 99 0 Tryz.f99 YK rl 1 k (fM.l1.p.mk' [.i c1,.i v2,.i c3,.i c4,.l (.sl 41 .sp) c5,.l .gr c6]) K)=fM.l1 (fun y1=>K .ret (fM.l1.q0.mk' [.i y1,.i c3,.i c4,.l (.sl 41 .sp) c5,.l .gr c6])) (K (.exit 0) (fM.l1.q1.mk' [.i c3,.i c4,.l (.sl 41 .sp) c5,.l .gr c6])) c1 c3 c4 c5 c6 k from by exact funext fun v2=>ih v2];rfl)
theorem fM.l0.eq {γ:Type} (YK:HdK γ) (rl:Option Nat) (K:gY→St→Option γ) (k:Nat) (v1:Int) (v2:Int) (v3:Int) (v4:Int) (v5:List (List P.S41)) (v6:List P.S43):fM.C.lK 0 99 1000002 Tryz.f99 YK rl 1 k (fM.l0.p.mk' [.i v1,.i v2,.i v3,.i v4,.l (.sl 41 .sp) v5,.l .gr v6]) K=fM.l0 (fun y1 y2 y3 y4 y5=>K .ret (fM.l0.q0.mk' [.i y1,.i y2,.i y3,.l (.sl 41 .sp) y4,.l .gr y5])) (fun y1 y2 y3 y4=>K .ret (fM.l0.q1.mk' [.i y1,.i y2,.l (.sl 41 .sp) y3,.l .gr y4])) k v1 v2 v3 v4 v5 v6:=by kernel_rfl
theorem fM.l2.eq {γ:Type} (YK:HdK γ) (rl:Option Nat) (K:gY→St→Option γ) (c1:Int) (c3:Int) (c4:Int) (c5:List (List P.S41)) (c6:List P.S43):∀ (k:Nat) (v2:Int),fM.C.lK 0 99 2 Tryz.f99 YK rl 1 k (fM.l2.p.mk' [.i c1,.i v2,.i c3,.i c4,.l (.sl 41 .sp) c5,.l .gr c6]) K=fM.l2 (fun y1=>K .ret (fM.l2.q0.mk' [.i y1,.i c3,.i c4,.l (.sl 41 .sp) c5,.l .gr c6])) (K (.exit 2) (fM.l2.q1.mk' [.i c3,.i c4,.l (.sl 41 .sp) c5,.l .gr c6])) c1 c3 c4 c5 c6 k v2:=by
  intro k;induction k with
  | zero=>intros;rfl
  | succ k ih =>
    intros v2
    exact (show fM.C.lK 0 99 2 Tryz.f99 YK rl 1 (k+1) (fM.l2.p.mk' [.i c1,.i v2,.i c3,.i c4,.l (.sl 41 .sp) c5,.l .gr c6]) K=fM.l2T (fun v2=>fM.C.lK 0 99 2 Tryz.f99 YK rl 1 k (fM.l2.p.mk' [.i c1,.i v2,.i c3,.i c4,.l (.sl 41 .sp) c5,.l .gr c6]) K) (fun y1=>K .ret (fM.l2.q0.mk' [.i y1,.i c3,.i c4,.l (.sl 41 .sp) c5,.l .gr c6])) (K (.exit 2) (fM.l2.q1.mk' [.i c3,.i c4,.l (.sl 41 .sp) c5,.l .gr c6])) c1 c3 c4 c5 c6 k v2 by kernel_rfl).trans (by
      rw [show (fun v2=>fM.C.lK 0 99 2 Tryz.f99 YK rl 1 k (fM.l2.p.mk' [.i c1,.i v2,.i c3,.i c4,.l (.sl 41 .sp) c5,.l .gr c6]) K)=fM.l2 (fun y1=>K .ret (fM.l2.q0.mk' [.i y1,.i c3,.i c4,.l (.sl 41 .sp) c5,.l .gr c6])) (K (.exit 2) (fM.l2.q1.mk' [.i c3,.i c4,.l (.sl 41 .sp) c5,.l .gr c6])) c1 c3 c4 c5 c6 k from by exact funext fun v2=>ih v2];rfl)
theorem fM.jk {γ:Type}:(fM.C (γ:=γ)).Ok:=⟨(all_cons (fun k=>by kernel_rfl) all_nil),(all_cons (by kernel_rfl) all_nil),all_nil⟩
theorem fM.e0 {γ:Type}:ku (fM.C (γ:=γ)) ⟨0,99,0,j6 [(fM.l1.p,fM.l1.g)]⟩:=fM.jk.lpE [] (show lk 99 (fM.C (γ:=γ)).fl=some Tryz.f99 by kernel_rfl) (by kernel_rfl) (by kernel_rfl) (all_cons (fun h=>(Bool.false_ne_true (show false=true from h)).elim) (all_cons (fun h=>(Bool.false_ne_true (show false=true from h)).elim) (all_cons (fun h=>(Bool.false_ne_true (show false=true from h)).elim) all_nil))) (all_cons (fun YK rl k ls K v hv=>(show fM.l1.g YK k K ls=some v→_ from fun hv=>by
  unfold fM.l1.g at hv;split at hv
  · exact (fM.l1.eq YK rl K _ _ _ _ _ _ _).trans hv
  · cases hv) hv) all_nil)
theorem fM.e1 {γ:Type}:ku (fM.C (γ:=γ)) ⟨0,99,1000002,j6 [(fM.l0.p,fM.l0.g)]⟩:=fM.jk.lpE [0] (show lk 99 (fM.C (γ:=γ)).fl=some Tryz.f99 by kernel_rfl) (by kernel_rfl) (by kernel_rfl) (all_cons (fun _=>fM.e0) (all_cons (fun h=>(Bool.false_ne_true (show false=true from h)).elim) (all_cons (fun h=>(Bool.false_ne_true (show false=true from h)).elim) all_nil))) (all_cons (fun YK rl k ls K v hv=>(show fM.l0.g YK k K ls=some v→_ from fun hv=>by
  unfold fM.l0.g at hv;split at hv
  · exact (fM.l0.eq YK rl K _ _ _ _ _ _ _).trans hv
  · cases hv) hv) all_nil)
theorem fM.e2 {γ:Type}:ku (fM.C (γ:=γ)) ⟨0,99,2,j6 [(fM.l2.p,fM.l2.g)]⟩:=fM.jk.lpE [] (show lk 99 (fM.C (γ:=γ)).fl=some Tryz.f99 by kernel_rfl) (by kernel_rfl) (by kernel_rfl) (all_cons (fun h=>(Bool.false_ne_true (show false=true from h)).elim) (all_cons (fun h=>(Bool.false_ne_true (show false=true from h)).elim) (all_cons (fun h=>(Bool.false_ne_true (show false=true from h)).elim) all_nil))) (all_cons (fun YK rl k ls K v hv=>(show fM.l2.g YK k K ls=some v→_ from fun hv=>by
  unfold fM.l2.g at hv;split at hv
  · exact (fM.l2.eq YK rl K _ _ _ _ _ _ _).trans hv
  · cases hv) hv) all_nil)
theorem fM.eq (k:Nat) (aa:Int) (ab:Int) (ac:List (List P.S41)) (af:List P.S43) (a1:Int) (a2:Int):fM.C.bK 0 99 Tryz.f99 k (iQ [.fm,(.int .i64),(.int .i64)] (⟨aa,ab,ac,af⟩,a1,a2,())) (K0 [.pl (.int .i64),.pl .bool])=fM.f k aa ab ac af a1 a2:=by kernel_rfl
theorem fM.ok (k:Nat):kM Tryz.prog 99 (fM.m k).s:=iG (C:=fM.C) fM.jk (n:=0) (fn:=Tryz.f99) mixed (fun _=>jL) nw0 (fun k=>iM (all_cons (jd.ok k) (all_cons (iI.ok k) (all_cons (iA.ok k) (all_cons (j4.ok k) (all_nil)))))) (all_cons ⟨Tryz.func99,by kernel_rfl⟩ all_nil) (all_cons fM.e0 (all_cons fM.e1 (all_cons fM.e2 all_nil))) (by kernel_rfl) (by kernel_rfl) (fun ⟨⟨aa,ab,ac,af⟩,a1,a2,_⟩ x h=>⟨k,(fM.eq k aa ab ac af a1 a2).trans h⟩)
noncomputable def iP.m (k:Nat):Sm:=kE [.fm,(.int .i64)] [.pl (.int .i64),.pl .bool] (fun a=>iP.f k a.1.f0 a.1.f1 a.1.f2 a.1.f3 a.2.1)
noncomputable def iP.E (k:Nat):kr:=⟨tL.tb,fun f=>lk f [(99,fM.m k)],fun _=>false⟩
noncomputable def iP.C {γ:Type}:Ctx γ:=⟨iP.E,[(60,Tryz.f60)],fun f=>(lk f [(60,⟨fun d=>jB d [],fun c=>lk c [],fun c=>lk c [],fun _=>none,fun _=>([],[])⟩)]).getD ⟨fun _=>false,fun _=>none,fun _=>none,fun _=>none,fun _=>([],[])⟩,[],[]⟩
theorem iP.jk {γ:Type}:(iP.C (γ:=γ)).Ok:=⟨(all_cons (fun k=>by kernel_rfl) all_nil),(all_cons (by kernel_rfl) all_nil),all_nil⟩
theorem iP.eq (k:Nat) (aa:Int) (ab:Int) (ac:List (List P.S41)) (af:List P.S43) (a1:Int):iP.C.bK 0 60 Tryz.f60 k (iQ [.fm,(.int .i64)] (⟨aa,ab,ac,af⟩,a1,())) (K0 [.pl (.int .i64),.pl .bool])=iP.f k aa ab ac af a1:=by kernel_rfl
theorem iP.ok (k:Nat):kM Tryz.prog 60 (iP.m k).s:=iG (C:=iP.C) iP.jk (n:=0) (fn:=Tryz.f60) mixed (fun _=>jL) nw0 (fun k=>iM (all_cons (fM.ok k) (all_nil))) (all_cons ⟨Tryz.func60,by kernel_rfl⟩ all_nil) all_nil (by kernel_rfl) (by kernel_rfl) (fun ⟨⟨aa,ab,ac,af⟩,a1,_⟩ x h=>⟨k,(iP.eq k aa ab ac af a1).trans h⟩)
noncomputable def iU.m (k:Nat):Sm:=kE [.fm,(.int .i64)] [.pl (.int .i64),.pl .bool] (fun a=>iU.f k a.1.f0 a.1.f1 a.1.f2 a.1.f3 a.2.1)
noncomputable def iU.E (k:Nat):kr:=⟨tL.tb,fun f=>lk f [(99,fM.m k)],fun _=>false⟩
noncomputable def iU.C {γ:Type}:Ctx γ:=⟨iU.E,[(61,Tryz.f61)],fun f=>(lk f [(61,⟨fun d=>jB d [],fun c=>lk c [],fun c=>lk c [],fun _=>none,fun _=>([],[])⟩)]).getD ⟨fun _=>false,fun _=>none,fun _=>none,fun _=>none,fun _=>([],[])⟩,[],[]⟩
theorem iU.jk {γ:Type}:(iU.C (γ:=γ)).Ok:=⟨(all_cons (fun k=>by kernel_rfl) all_nil),(all_cons (by kernel_rfl) all_nil),all_nil⟩
theorem iU.eq (k:Nat) (aa:Int) (ab:Int) (ac:List (List P.S41)) (af:List P.S43) (a1:Int):iU.C.bK 0 61 Tryz.f61 k (iQ [.fm,(.int .i64)] (⟨aa,ab,ac,af⟩,a1,())) (K0 [.pl (.int .i64),.pl .bool])=iU.f k aa ab ac af a1:=by kernel_rfl
theorem iU.ok (k:Nat):kM Tryz.prog 61 (iU.m k).s:=iG (C:=iU.C) iU.jk (n:=0) (fn:=Tryz.f61) mixed (fun _=>jL) nw0 (fun k=>iM (all_cons (fM.ok k) (all_nil))) (all_cons ⟨Tryz.func61,by kernel_rfl⟩ all_nil) all_nil (by kernel_rfl) (by kernel_rfl) (fun ⟨⟨aa,ab,ac,af⟩,a1,_⟩ x h=>⟨k,(iU.eq k aa ab ac af a1).trans h⟩)
end Go.Proofs.YtongeknogcboiaaGreat.R
namespace Go.Proofs.YtongeknogcboiaaGreat.R
open M Go.RowKit Go.Proofs.YtongeknogcboiaaGreatW.gy Go.Proofs.YtongeknogcboiaaGreatW.iE Go.Proofs.YtongeknogcboiaaGreatW.jh
set_option linter.unusedVariables false
noncomputable def iV.m (k:Nat):Sm:=kE [(.sl 41 .sp),(.sl 41 .sp)] [.pl .bool] (fun a=>iV.f k a.1 a.2.1)
noncomputable def iV.E (k:Nat):kr:=⟨tL.tb,fun f=>lk f [],fun _=>false⟩
noncomputable def iV.C {γ:Type}:Ctx γ:=⟨iV.E,[(109,Tryz.f109)],fun f=>(lk f [(109,⟨fun d=>jB d [],fun c=>lk c [],fun c=>lk c [],fun _=>none,fun _=>([],[])⟩)]).getD ⟨fun _=>false,fun _=>none,fun _=>none,fun _=>none,fun _=>([],[])⟩,[],[]⟩
theorem iV.jk {γ:Type}:(iV.C (γ:=γ)).Ok:=⟨(all_cons (fun k=>by kernel_rfl) all_nil),(all_cons (by kernel_rfl) all_nil),all_nil⟩
theorem iV.eq (k:Nat) (a0:List P.S41) (a1:List P.S41):iV.C.bK 0 109 Tryz.f109 k (iQ [(.sl 41 .sp),(.sl 41 .sp)] (a0,a1,())) (K0 [.pl .bool])=iV.f k a0 a1:=by kernel_rfl
theorem iV.ok (k:Nat):kM Tryz.prog 109 (iV.m k).s:=iG (C:=iV.C) iV.jk (n:=0) (fn:=Tryz.f109) mixed (fun _=>jL) nw0 (fun k=>iM (all_nil)) (all_cons ⟨Tryz.func109,by kernel_rfl⟩ all_nil) all_nil (by kernel_rfl) (by kernel_rfl) (fun ⟨a0,a1,_⟩ x h=>⟨k,(iV.eq k a0 a1).trans h⟩)
noncomputable def jF.m (k:Nat):Sm:=kE [.fm,(.int .i64)] [.pl .bool] (fun a=>jF.f k a.1.f0 a.1.f1 a.1.f2 a.1.f3 a.2.1)
noncomputable def jF.E (k:Nat):kr:=⟨tL.tb,fun f=>lk f [(11,iW.m k),(60,iP.m k),(61,iU.m k),(109,iV.m k)],fun _=>false⟩
noncomputable def jF.C {γ:Type}:Ctx γ:=⟨jF.E,[(71,Tryz.f71)],fun f=>(lk f [(71,⟨fun d=>jB d [],fun c=>lk c [],fun c=>lk c [],fun _=>none,fun _=>([],[])⟩)]).getD ⟨fun _=>false,fun _=>none,fun _=>none,fun _=>none,fun _=>([],[])⟩,[],[]⟩
theorem jF.jk {γ:Type}:(jF.C (γ:=γ)).Ok:=⟨(all_cons (fun k=>by kernel_rfl) all_nil),(all_cons (by kernel_rfl) all_nil),all_nil⟩
theorem jF.eq (k:Nat) (aa:Int) (ab:Int) (ac:List (List P.S41)) (af:List P.S43) (a1:Int):jF.C.bK 0 71 Tryz.f71 k (iQ [.fm,(.int .i64)] (⟨aa,ab,ac,af⟩,a1,())) (K0 [.pl .bool])=jF.f k aa ab ac af a1:=by kernel_rfl
theorem jF.ok (k:Nat):kM Tryz.prog 71 (jF.m k).s:=iG (C:=jF.C) jF.jk (n:=0) (fn:=Tryz.f71) mixed (fun _=>jL) nw0 (fun k=>iM (all_cons (iW.ok k) (all_cons (iP.ok k) (all_cons (iU.ok k) (all_cons (iV.ok k) (all_nil)))))) (all_cons ⟨Tryz.func71,by kernel_rfl⟩ all_nil) all_nil (by kernel_rfl) (by kernel_rfl) (fun ⟨⟨aa,ab,ac,af⟩,a1,_⟩ x h=>⟨k,(jF.eq k aa ab ac af a1).trans h⟩)
noncomputable def gH.m (k:Nat):Sm:=kE [.fm] [.pl (.int .i64)] (fun a=>gH.f k a.1.f0 a.1.f1 a.1.f2 a.1.f3)
noncomputable def gH.E (k:Nat):kr:=⟨tL.tb,fun f=>lk f [(68,gK.m k),(69,fJ.m k),(70,fZ.m k),(71,jF.m k)],fun _=>false⟩
noncomputable def gH.l1.p:PS:=⟨[nO,.one (.bp 0 0)]++nOs 27++[.one (.s .gr),.one (.i .i64),.one (.i .i64)]++nOs 9,[.box 25 [.i .i64,.i .i64,.s (.sl 41 .sp),.s .gr]]⟩
noncomputable def gH.l1.q0:PS:=⟨[nO,nO,.one (.li .i64 50)]++nOs 38,[.box 25 [.i .i64,.i .i64,.s (.sl 41 .sp),.s .gr]]⟩
noncomputable def gH.l1.q1:PS:=⟨nOs 41,[.box 25 [.i .i64,.i .i64,.s (.sl 41 .sp),.s .gr]]⟩
noncomputable def gH.l1.g {γ:Type} (YK:HdK γ) (k:Nat) (K:gY→St→Option γ):List Lf→Option γ
  | [.l .gr c1,.i c2,.i v3,.i c4,.i c5,.l (.sl 41 .sp) c6,.l .gr c7]=>gH.l1 (K .ret (gH.l1.q0.mk' [.i c4,.i c5,.l (.sl 41 .sp) c6,.l .gr c7])) (K (.exit 0) (gH.l1.q1.mk' [.i c4,.i c5,.l (.sl 41 .sp) c6,.l .gr c7])) c1 c2 c4 c5 c6 c7 k v3
  | _=>none
noncomputable def gH.l0.p:PS:=⟨[nO,.one (.bp 0 0)]++nOs 39,[.box 25 [.i .i64,.i .i64,.s (.sl 41 .sp),.s .gr]]⟩
noncomputable def gH.l0.q0:PS:=⟨[nO,nO,.one (.li .i64 50)]++nOs 38,[.box 25 [.i .i64,.i .i64,.s (.sl 41 .sp),.s .gr]]⟩
noncomputable def gH.l0.q1:PS:=⟨[nO,nO,.one (.li .i64 0)]++nOs 38,[.box 25 [.i .i64,.i .i64,.s (.sl 41 .sp),.s .gr]]⟩
noncomputable def gH.l0.g {γ:Type} (YK:HdK γ) (k:Nat) (K:gY→St→Option γ):List Lf→Option γ
  | [.i v1,.i v2,.l (.sl 41 .sp) v3,.l .gr v4]=>gH.l0 (fun y1 y2 y3 y4=>K .ret (gH.l0.q0.mk' [.i y1,.i y2,.l (.sl 41 .sp) y3,.l .gr y4])) (fun y1 y2 y3 y4=>K .ret (gH.l0.q1.mk' [.i y1,.i y2,.l (.sl 41 .sp) y3,.l .gr y4]))  k v1 v2 v3 v4
  | _=>none
noncomputable def gH.C {γ:Type}:Ctx γ:=⟨gH.E,[(35,Tryz.f35)],fun f=>(lk f [(35,⟨fun d=>jB d [],fun c=>lk c [(0,[1,29,30,31]),(1000010,[1])],fun c=>lk c [(0,[2]),(1000010,[2])],fun _=>none,fun _=>([],[])⟩)]).getD ⟨fun _=>false,fun _=>none,fun _=>none,fun _=>none,fun _=>([],[])⟩,[⟨0,35,0,j6 [(gH.l1.p,gH.l1.g)]⟩,⟨0,35,1000010,j6 [(gH.l0.p,gH.l0.g)]⟩],[]⟩
theorem gH.l1.eq {γ:Type} (YK:HdK γ) (rl:Option Nat) (K:gY→St→Option γ) (c1:List P.S43) (c2:Int) (c4:Int) (c5:Int) (c6:List (List P.S41)) (c7:List P.S43):∀ (k:Nat) (v3:Int),gH.C.lK 0 35 0 Tryz.f35 YK rl 1 k (gH.l1.p.mk' [.l .gr c1,.i c2,.i v3,.i c4,.i c5,.l (.sl 41 .sp) c6,.l .gr c7]) K=gH.l1 (K .ret (gH.l1.q0.mk' [.i c4,.i c5,.l (.sl 41 .sp) c6,.l .gr c7])) (K (.exit 0) (gH.l1.q1.mk' [.i c4,.i c5,.l (.sl 41 .sp) c6,.l .gr c7])) c1 c2 c4 c5 c6 c7 k v3:=by
  intro k;induction k with
  | zero=>intros;rfl
  | succ k ih =>
    intros v3
    exact (show gH.C.lK 0 35 0 Tryz.f35 YK rl 1 (k+1) (gH.l1.p.mk' [.l .gr c1,.i c2,.i v3,.i c4,.i c5,.l (.sl 41 .sp) c6,.l .gr c7]) K=gH.l1T (fun v3=>gH.C.lK 0 35 0 Tryz.f35 YK rl 1 k (gH.l1.p.mk' [.l .gr c1,.i c2,.i v3,.i c4,.i c5,.l (.sl 41 .sp) c6,.l .gr c7]) K) (K .ret (gH.l1.q0.mk' [.i c4,.i c5,.l (.sl 41 .sp) c6,.l .gr c7])) (K (.exit 0) (gH.l1.q1.mk' [.i c4,.i c5,.l (.sl 41 .sp) c6,.l .gr c7])) c1 c2 c4 c5 c6 c7 k v3 by kernel_rfl).trans (by
      rw [show (fun v3=>gH.C.lK 0 35 0 Tryz.f35 YK rl 1 k (gH.l1.p.mk' [.l .gr c1,.i c2,.i v3,.i c4,.i c5,.l (.sl 41 .sp) c6,.l .gr c7]) K)=gH.l1 (K .ret (gH.l1.q0.mk' [.i c4,.i c5,.l (.sl 41 .sp) c6,.l .gr c7])) (K (.exit 0) (gH.l1.q1.mk' [.i c4,.i c5,.l (.sl 41 .sp) c6,.l .gr c7])) c1 c2 c4 c5 c6 c7 k from by exact funext fun v3=>ih v3];rfl)
theorem gH.l0.eq {γ:Type} (YK:HdK γ) (rl:Option Nat) (K:gY→St→Option γ) (k:Nat) (v1:Int) (v2:Int) (v3:List (List P.S41)) (v4:List P.S43):gH.C.lK 0 35 1000010 Tryz.f35 YK rl 1 k (gH.l0.p.mk' [.i v1,.i v2,.l (.sl 41 .sp) v3,.l .gr v4]) K=gH.l0 (fun y1 y2 y3 y4=>K .ret (gH.l0.q0.mk' [.i y1,.i y2,.l (.sl 41 .sp) y3,.l .gr y4])) (fun y1 y2 y3 y4=>K .ret (gH.l0.q1.mk' [.i y1,.i y2,.l (.sl 41 .sp) y3,.l .gr y4])) k v1 v2 v3 v4:=by kernel_rfl
theorem gH.jk {γ:Type}:(gH.C (γ:=γ)).Ok:=⟨(all_cons (fun k=>by kernel_rfl) all_nil),(all_cons (by kernel_rfl) all_nil),all_nil⟩
theorem gH.e0 {γ:Type}:ku (gH.C (γ:=γ)) ⟨0,35,0,j6 [(gH.l1.p,gH.l1.g)]⟩:=gH.jk.lpE [] (show lk 35 (gH.C (γ:=γ)).fl=some Tryz.f35 by kernel_rfl) (by kernel_rfl) (by kernel_rfl) (all_cons (fun h=>(Bool.false_ne_true (show false=true from h)).elim) (all_cons (fun h=>(Bool.false_ne_true (show false=true from h)).elim) all_nil)) (all_cons (fun YK rl k ls K v hv=>(show gH.l1.g YK k K ls=some v→_ from fun hv=>by
  unfold gH.l1.g at hv;split at hv
  · exact (gH.l1.eq YK rl K _ _ _ _ _ _ _ _).trans hv
  · cases hv) hv) all_nil)
theorem gH.e1 {γ:Type}:ku (gH.C (γ:=γ)) ⟨0,35,1000010,j6 [(gH.l0.p,gH.l0.g)]⟩:=gH.jk.lpE [0] (show lk 35 (gH.C (γ:=γ)).fl=some Tryz.f35 by kernel_rfl) (by kernel_rfl) (by kernel_rfl) (all_cons (fun _=>gH.e0) (all_cons (fun h=>(Bool.false_ne_true (show false=true from h)).elim) all_nil)) (all_cons (fun YK rl k ls K v hv=>(show gH.l0.g YK k K ls=some v→_ from fun hv=>by
  unfold gH.l0.g at hv;split at hv
  · exact (gH.l0.eq YK rl K _ _ _ _ _).trans hv
  · cases hv) hv) all_nil)
theorem gH.eq (k:Nat) (aa:Int) (ab:Int) (ac:List (List P.S41)) (af:List P.S43):gH.C.bK 0 35 Tryz.f35 k (iQ [.fm] (⟨aa,ab,ac,af⟩,())) (K0 [.pl (.int .i64)])=gH.f k aa ab ac af:=by kernel_rfl
theorem gH.ok (k:Nat):kM Tryz.prog 35 (gH.m k).s:=iG (C:=gH.C) gH.jk (n:=0) (fn:=Tryz.f35) mixed (fun _=>jL) nw0 (fun k=>iM (all_cons (gK.ok k) (all_cons (fJ.ok k) (all_cons (fZ.ok k) (all_cons (jF.ok k) (all_nil)))))) (all_cons ⟨Tryz.func35,by kernel_rfl⟩ all_nil) (all_cons gH.e0 (all_cons gH.e1 all_nil)) (by kernel_rfl) (by kernel_rfl) (fun ⟨⟨aa,ab,ac,af⟩,_⟩ x h=>⟨k,(gH.eq k aa ab ac af).trans h⟩)
noncomputable def iO.m (k:Nat):Sm:=kE [.fm] [.pl .bool] (fun a=>iO.f k a.1.f0 a.1.f1 a.1.f2 a.1.f3)
noncomputable def iO.E (k:Nat):kr:=⟨tL.tb,fun f=>lk f [(34,iN.m k),(35,gH.m k)],fun _=>false⟩
noncomputable def iO.C {γ:Type}:Ctx γ:=⟨iO.E,[(9,Tryz.f9)],fun f=>(lk f [(9,⟨fun d=>jB d [],fun c=>lk c [],fun c=>lk c [],fun _=>none,fun _=>([],[])⟩)]).getD ⟨fun _=>false,fun _=>none,fun _=>none,fun _=>none,fun _=>([],[])⟩,[],[]⟩
theorem iO.jk {γ:Type}:(iO.C (γ:=γ)).Ok:=⟨(all_cons (fun k=>by kernel_rfl) all_nil),(all_cons (by kernel_rfl) all_nil),all_nil⟩
theorem iO.eq (k:Nat) (aa:Int) (ab:Int) (ac:List (List P.S41)) (af:List P.S43):iO.C.bK 0 9 Tryz.f9 k (iQ [.fm] (⟨aa,ab,ac,af⟩,())) (K0 [.pl .bool])=iO.f k aa ab ac af:=by kernel_rfl
theorem iO.ok (k:Nat):kM Tryz.prog 9 (iO.m k).s:=iG (C:=iO.C) iO.jk (n:=0) (fn:=Tryz.f9) mixed (fun _=>jL) nw0 (fun k=>iM (all_cons (iN.ok k) (all_cons (gH.ok k) (all_nil)))) (all_cons ⟨Tryz.func9,by kernel_rfl⟩ all_nil) all_nil (by kernel_rfl) (by kernel_rfl) (fun ⟨⟨aa,ab,ac,af⟩,_⟩ x h=>⟨k,(iO.eq k aa ab ac af).trans h⟩)
noncomputable def iJ.m (k:Nat):Sm:=kE [(.sl 41 .sp),.bool] [.pl (.int .i64)] (fun a=>iJ.f k a.1 a.2.1)
noncomputable def iJ.E (k:Nat):kr:=⟨tL.tb,fun f=>lk f [],fun _=>false⟩
noncomputable def iJ.C {γ:Type}:Ctx γ:=⟨iJ.E,[(147,Tryz.f147)],fun f=>(lk f [(147,⟨fun d=>jB d [],fun c=>lk c [],fun c=>lk c [],fun _=>none,fun _=>([],[])⟩)]).getD ⟨fun _=>false,fun _=>none,fun _=>none,fun _=>none,fun _=>([],[])⟩,[],[]⟩
theorem iJ.jk {γ:Type}:(iJ.C (γ:=γ)).Ok:=⟨(all_cons (fun k=>by kernel_rfl) all_nil),(all_cons (by kernel_rfl) all_nil),all_nil⟩
theorem iJ.eq (k:Nat) (a0:List P.S41) (a1:Bool):iJ.C.bK 0 147 Tryz.f147 k (iQ [(.sl 41 .sp),.bool] (a0,a1,())) (K0 [.pl (.int .i64)])=iJ.f k a0 a1:=by kernel_rfl
theorem iJ.ok (k:Nat):kM Tryz.prog 147 (iJ.m k).s:=iG (C:=iJ.C) iJ.jk (n:=0) (fn:=Tryz.f147) mixed (fun _=>jL) nw0 (fun k=>iM (all_nil)) (all_cons ⟨Tryz.func147,by kernel_rfl⟩ all_nil) all_nil (by kernel_rfl) (by kernel_rfl) (fun ⟨a0,a1,_⟩ x h=>⟨k,(iJ.eq k a0 a1).trans h⟩)
noncomputable def jg.m (k:Nat):Sm:=kE [(.sl 41 .sp),.bool,(.int .i64)] [.pl (.sl 41 .sp),.pl .bool] (fun a=>jg.f k a.1 a.2.1 a.2.2.1)
noncomputable def jg.E (k:Nat):kr:=⟨tL.tb,fun f=>lk f [],fun _=>false⟩
noncomputable def jg.C {γ:Type}:Ctx γ:=⟨jg.E,[(149,Tryz.f149)],fun f=>(lk f [(149,⟨fun d=>jB d [42,43],fun c=>lk c [],fun c=>lk c [],fun _=>none,fun _=>([],[])⟩)]).getD ⟨fun _=>false,fun _=>none,fun _=>none,fun _=>none,fun _=>([],[])⟩,[],[]⟩
theorem jg.jk {γ:Type}:(jg.C (γ:=γ)).Ok:=⟨(all_cons (fun k=>by kernel_rfl) all_nil),(all_cons (by kernel_rfl) all_nil),all_nil⟩
theorem jg.eq (k:Nat) (a0:List P.S41) (a1:Bool) (a2:Int):jg.C.bK 0 149 Tryz.f149 k (iQ [(.sl 41 .sp),.bool,(.int .i64)] (a0,a1,a2,())) (K0 [.pl (.sl 41 .sp),.pl .bool])=jg.f k a0 a1 a2:=by kernel_rfl
theorem jg.ok (k:Nat):kM Tryz.prog 149 (jg.m k).s:=iG (C:=jg.C) jg.jk (n:=0) (fn:=Tryz.f149) mixed (fun _=>jL) nw0 (fun k=>iM (all_nil)) (all_cons ⟨Tryz.func149,by kernel_rfl⟩ all_nil) all_nil (by kernel_rfl) (by kernel_rfl) (fun ⟨a0,a1,a2,_⟩ x h=>⟨k,(jg.eq k a0 a1 a2).trans h⟩)
noncomputable def jC.m (k:Nat):Sm:=kE [.bool,.bool] [.pl .bool] (fun a=>jC.f k a.1 a.2.1)
noncomputable def jC.E (k:Nat):kr:=⟨tL.tb,fun f=>lk f [],fun _=>false⟩
noncomputable def jC.C {γ:Type}:Ctx γ:=⟨jC.E,[(80,Tryz.f80)],fun f=>(lk f [(80,⟨fun d=>jB d [],fun c=>lk c [],fun c=>lk c [],fun _=>none,fun _=>([],[])⟩)]).getD ⟨fun _=>false,fun _=>none,fun _=>none,fun _=>none,fun _=>([],[])⟩,[],[]⟩
theorem jC.jk {γ:Type}:(jC.C (γ:=γ)).Ok:=⟨(all_cons (fun k=>by kernel_rfl) all_nil),(all_cons (by kernel_rfl) all_nil),all_nil⟩
theorem jC.eq (k:Nat) (a0:Bool) (a1:Bool):jC.C.bK 0 80 Tryz.f80 k (iQ [.bool,.bool] (a0,a1,())) (K0 [.pl .bool])=jC.f k a0 a1:=by kernel_rfl
theorem jC.ok (k:Nat):kM Tryz.prog 80 (jC.m k).s:=iG (C:=jC.C) jC.jk (n:=0) (fn:=Tryz.f80) mixed (fun _=>jL) nw0 (fun k=>iM (all_nil)) (all_cons ⟨Tryz.func80,by kernel_rfl⟩ all_nil) all_nil (by kernel_rfl) (by kernel_rfl) (fun ⟨a0,a1,_⟩ x h=>⟨k,(jC.eq k a0 a1).trans h⟩)
noncomputable def gW.m (k:Nat):Sm:=kE [(.sl 41 .sp),(.sl 41 .sp)] [.own 41 .sp] (fun a=>gW.f k a.1 a.2.1)
noncomputable def gW.E (k:Nat):kr:=⟨tL.tb,fun f=>lk f [(80,jC.m k),(147,iJ.m k),(149,jg.m k)],fun _=>false⟩
noncomputable def gW.y0 {γ:Type} (x:AV) (bx:List Bx) (x0:(List P.S41)→Bool→Int→(List P.S41)→(List P.S41)→Option γ):Option γ :=
  match yrd true [.box 97 [.fn 80 []],.box 28 [.o 41 .sp],.box 4 [.b],.box 3 [.i .i64],.box 28 [.s .sp],.box 28 [.s .sp],.box 163 [.fn 147 []],.lp .normal] x bx with
  | some [.l .sp z1,.b z2,.i z3,.l .sp z4,.l .sp z5]=>(x0 z1 z2 z3 z4 z5)
  | _=>none
noncomputable def gW.y0T {γ:Type}:YdK γ:=fun K x bx=>gW.y0 x bx (fun z1 z2 z3 z4 z5=>K (kT true) [.box 97 [.fn 80 []],.box 28 [.ow 41 .sp z1],.box 4 [.v (.bool z2)],.box 3 [.v (.int .i64 z3)],.box 28 [.sl .sp z4],.box 28 [.sl .sp z5],.box 163 [.fn 147 []],.lp .normal])
theorem gW.nU {γ:Type}:uE (gW.y0T (γ:=γ)):=fun K x bx v h=>by
  unfold gW.y0T gW.y0 at h;split at h
  · rename_i hy
    obtain ⟨rfl,rfl⟩:=kX hy;exact h
  · cases h
noncomputable def gW.l0.p:PS:=⟨[.one (.yl 7),.one (.bp 4 0),.one (.bp 5 0),.one (.bp 6 0),nO,.one (.b),.one (.b)]++nOs 53,[.box 97 [.fn 80 []],.box 28 [.o 41 .sp],.box 4 [.b],.box 3 [.i .i64],.box 28 [.s .sp],.box 28 [.s .sp],.box 163 [.fn 147 []],.lp .normal]⟩
noncomputable def gW.l0.q0:PS:=⟨nOs 60,[.box 97 [.fn 80 []],.box 28 [.o 41 .sp],.box 4 [.b],.box 3 [.i .i64],.box 28 [.s .sp],.box 28 [.s .sp],.box 163 [.fn 147 []],.lp .normal]⟩
noncomputable def gW.l0.g {γ:Type} (YK:HdK γ) (k:Nat) (K:gY→St→Option γ):List Lf→Option γ
  | [.b v1,.b v2,.l .sp v3,.b v4,.i v5,.l .sp v6,.l .sp v7]=>gW.l0 (fun q0 q1 q2 q3 q4 q5 q6 q7 x0=>(YK 7).bind fun h=>h [.pt (.agg [.v (.int .i64 q0),.v (.bool q1),.v (.bool q2)])] [.box 97 [.fn 80 []],.box 28 [.ow 41 .sp q3],.box 4 [.v (.bool q4)],.box 3 [.v (.int .i64 q5)],.box 28 [.sl .sp q6],.box 28 [.sl .sp q7],.box 163 [.fn 147 []],.lp .normal] (fun x bx=>gW.y0 x bx x0)) (fun y1 y2 y3 y4 y5=>K (.exit 0) (gW.l0.q0.mk' [.l .sp y1,.b y2,.i y3,.l .sp y4,.l .sp y5]))  k v1 v2 v3 v4 v5 v6 v7
  | _=>none
noncomputable def gW.C {γ:Type}:Ctx γ:=⟨gW.E,[(42,Tryz.f42),(79,Tryz.f79),(118,Tryz.f118),(148,Tryz.f148)],fun f=>(lk f [(42,⟨fun d=>jB d [],fun c=>lk c [],fun c=>lk c [],fun _=>none,fun _=>([],[])⟩),(79,⟨fun d=>jB d [36,45],fun c=>lk c [],fun c=>lk c [],fun _=>none,fun _=>([],[])⟩),(118,⟨fun d=>jB d [],fun c=>lk c [],fun c=>lk c [],fun _=>none,fun _=>([],[])⟩),(148,⟨fun d=>jB d [100014,100018],fun c=>lk c [(0,[0,1,2,3,5,6])],fun c=>lk c [(0,[])],fun _=>none,fun _=>([],[])⟩)]).getD ⟨fun _=>false,fun _=>none,fun _=>none,fun _=>none,fun _=>([],[])⟩,[⟨1,148,0,j6 [(gW.l0.p,gW.l0.g)]⟩],[⟨1,148,7,gW.y0T⟩]⟩
theorem gW.l0.eq {γ:Type} (YK:HdK γ) (rl:Option Nat) (K:gY→St→Option γ)  : ∀ (k:Nat) (v1:Bool) (v2:Bool) (v3:List P.S41) (v4:Bool) (v5:Int) (v6:List P.S41) (v7:List P.S41),gW.C.lK 1 148 0 Tryz.f148 YK rl 8 k (gW.l0.p.mk' [.b v1,.b v2,.l .sp v3,.b v4,.i v5,.l .sp v6,.l .sp v7]) K=gW.l0 (fun q0 q1 q2 q3 q4 q5 q6 q7 x0=>(YK 7).bind fun h=>h [.pt (.agg [.v (.int .i64 q0),.v (.bool q1),.v (.bool q2)])] [.box 97 [.fn 80 []],.box 28 [.ow 41 .sp q3],.box 4 [.v (.bool q4)],.box 3 [.v (.int .i64 q5)],.box 28 [.sl .sp q6],.box 28 [.sl .sp q7],.box 163 [.fn 147 []],.lp .normal] (fun x bx=>gW.y0 x bx x0)) (fun y1 y2 y3 y4 y5=>K (.exit 0) (gW.l0.q0.mk' [.l .sp y1,.b y2,.i y3,.l .sp y4,.l .sp y5]))  k v1 v2 v3 v4 v5 v6 v7:=by
  intro k;induction k with
  | zero=>intros;rfl
  | succ k ih =>
    intros v1 v2 v3 v4 v5 v6 v7
    exact (show gW.C.lK 1 148 0 Tryz.f148 YK rl 8 (k+1) (gW.l0.p.mk' [.b v1,.b v2,.l .sp v3,.b v4,.i v5,.l .sp v6,.l .sp v7]) K=gW.l0T (fun v1 v2 v3 v4 v5 v6 v7=>gW.C.lK 1 148 0 Tryz.f148 YK rl 8 k (gW.l0.p.mk' [.b v1,.b v2,.l .sp v3,.b v4,.i v5,.l .sp v6,.l .sp v7]) K) (fun q0 q1 q2 q3 q4 q5 q6 q7 x0=>(YK 7).bind fun h=>h [.pt (.agg [.v (.int .i64 q0),.v (.bool q1),.v (.bool q2)])] [.box 97 [.fn 80 []],.box 28 [.ow 41 .sp q3],.box 4 [.v (.bool q4)],.box 3 [.v (.int .i64 q5)],.box 28 [.sl .sp q6],.box 28 [.sl .sp q7],.box 163 [.fn 147 []],.lp .normal] (fun x bx=>gW.y0 x bx x0)) (fun y1 y2 y3 y4 y5=>K (.exit 0) (gW.l0.q0.mk' [.l .sp y1,.b y2,.i y3,.l .sp y4,.l .sp y5]))  k v1 v2 v3 v4 v5 v6 v7 by kernel_rfl).trans (by
      rw [show (fun v1 v2 v3 v4 v5 v6 v7=>gW.C.lK 1 148 0 Tryz.f148 YK rl 8 k (gW.l0.p.mk' [.b v1,.b v2,.l .sp v3,.b v4,.i v5,.l .sp v6,.l .sp v7]) K)=gW.l0 (fun q0 q1 q2 q3 q4 q5 q6 q7 x0=>(YK 7).bind fun h=>h [.pt (.agg [.v (.int .i64 q0),.v (.bool q1),.v (.bool q2)])] [.box 97 [.fn 80 []],.box 28 [.ow 41 .sp q3],.box 4 [.v (.bool q4)],.box 3 [.v (.int .i64 q5)],.box 28 [.sl .sp q6],.box 28 [.sl .sp q7],.box 163 [.fn 147 []],.lp .normal] (fun x bx=>gW.y0 x bx x0)) (fun y1 y2 y3 y4 y5=>K (.exit 0) (gW.l0.q0.mk' [.l .sp y1,.b y2,.i y3,.l .sp y4,.l .sp y5]))  k from by exact funext fun v1=>funext fun v2=>funext fun v3=>funext fun v4=>funext fun v5=>funext fun v6=>funext fun v7=>ih v1 v2 v3 v4 v5 v6 v7];rfl)
theorem gW.jk {γ:Type}:(gW.C (γ:=γ)).Ok:=⟨(all_cons (fun k=>by kernel_rfl) (all_cons (fun k=>by kernel_rfl) (all_cons (fun k=>by kernel_rfl) (all_cons (fun k=>by kernel_rfl) all_nil)))),(all_cons (by kernel_rfl) (all_cons (by kernel_rfl) (all_cons (by kernel_rfl) (all_cons (by kernel_rfl) all_nil)))),(all_cons gW.nU all_nil)⟩
theorem gW.e0 {γ:Type}:ku (gW.C (γ:=γ)) ⟨1,148,0,j6 [(gW.l0.p,gW.l0.g)]⟩:=gW.jk.lpE [] (show lk 148 (gW.C (γ:=γ)).fl=some Tryz.f148 by kernel_rfl) (by kernel_rfl) (by kernel_rfl) (all_cons (fun h=>(Bool.false_ne_true (show false=true from h)).elim) all_nil) (all_cons (fun YK rl k ls K v hv=>(show gW.l0.g YK k K ls=some v→_ from fun hv=>by
  unfold gW.l0.g at hv;split at hv
  · exact (gW.l0.eq YK rl K _ _ _ _ _ _ _ _).trans hv
  · cases hv) hv) all_nil)
theorem gW.eq (k:Nat) (a0:List P.S41) (a1:List P.S41):gW.C.bK 3 42 Tryz.f42 k (iQ [(.sl 41 .sp),(.sl 41 .sp)] (a0,a1,())) (K0 [.own 41 .sp])=gW.f k a0 a1:=by kernel_rfl
theorem gW.ok (k:Nat):kM Tryz.prog 42 (gW.m k).s:=iG (C:=gW.C) gW.jk (n:=3) (fn:=Tryz.f42) mixed (fun _=>jL) nw0 (fun k=>iM (all_cons (jC.ok k) (all_cons (iJ.ok k) (all_cons (jg.ok k) (all_nil))))) (all_cons ⟨Tryz.func42,by kernel_rfl⟩ (all_cons ⟨Tryz.func79,by kernel_rfl⟩ (all_cons ⟨Tryz.func118,by kernel_rfl⟩ (all_cons ⟨Tryz.func148,by kernel_rfl⟩ all_nil)))) (all_cons gW.e0 all_nil) (by kernel_rfl) (by kernel_rfl) (fun ⟨a0,a1,_⟩ x h=>⟨k,(gW.eq k a0 a1).trans h⟩)
noncomputable def jf.m (k:Nat):Sm:=kE [(.sl 41 .sp),(.sl 41 .sp)] [.pl .bool] (fun a=>jf.f k a.1 a.2.1)
noncomputable def jf.E (k:Nat):kr:=⟨tL.tb,fun f=>lk f [(42,gW.m k)],fun _=>false⟩
noncomputable def jf.C {γ:Type}:Ctx γ:=⟨jf.E,[(14,Tryz.f14)],fun f=>(lk f [(14,⟨fun d=>jB d [],fun c=>lk c [],fun c=>lk c [],fun _=>none,fun _=>([],[])⟩)]).getD ⟨fun _=>false,fun _=>none,fun _=>none,fun _=>none,fun _=>([],[])⟩,[],[]⟩
theorem jf.jk {γ:Type}:(jf.C (γ:=γ)).Ok:=⟨(all_cons (fun k=>by kernel_rfl) all_nil),(all_cons (by kernel_rfl) all_nil),all_nil⟩
theorem jf.eq (k:Nat) (a0:List P.S41) (a1:List P.S41):jf.C.bK 0 14 Tryz.f14 k (iQ [(.sl 41 .sp),(.sl 41 .sp)] (a0,a1,())) (K0 [.pl .bool])=jf.f k a0 a1:=by kernel_rfl
theorem jf.ok (k:Nat):kM Tryz.prog 14 (jf.m k).s:=iG (C:=jf.C) jf.jk (n:=0) (fn:=Tryz.f14) mixed (fun _=>jL) nw0 (fun k=>iM (all_cons (gW.ok k) (all_nil))) (all_cons ⟨Tryz.func14,by kernel_rfl⟩ all_nil) all_nil (by kernel_rfl) (by kernel_rfl) (fun ⟨a0,a1,_⟩ x h=>⟨k,(jf.eq k a0 a1).trans h⟩)
noncomputable def iR.m (k:Nat):Sm:=kE [(.sl 41 .sp)] [.pl .sp,.pl .bool] (fun a=>iR.f k a.1)
noncomputable def iR.E (k:Nat):kr:=⟨tL.tb,fun f=>lk f [],fun _=>false⟩
noncomputable def iR.C {γ:Type}:Ctx γ:=⟨iR.E,[(52,Tryz.f52)],fun f=>(lk f [(52,⟨fun d=>jB d [],fun c=>lk c [],fun c=>lk c [],fun _=>none,fun _=>([],[])⟩)]).getD ⟨fun _=>false,fun _=>none,fun _=>none,fun _=>none,fun _=>([],[])⟩,[],[]⟩
theorem iR.jk {γ:Type}:(iR.C (γ:=γ)).Ok:=⟨(all_cons (fun k=>by kernel_rfl) all_nil),(all_cons (by kernel_rfl) all_nil),all_nil⟩
theorem iR.eq (k:Nat) (a0:List P.S41):iR.C.bK 0 52 Tryz.f52 k (iQ [(.sl 41 .sp)] (a0,())) (K0 [.pl .sp,.pl .bool])=iR.f k a0:=by kernel_rfl
theorem iR.ok (k:Nat):kM Tryz.prog 52 (iR.m k).s:=iG (C:=iR.C) iR.jk (n:=0) (fn:=Tryz.f52) mixed (fun _=>jL) nw0 (fun k=>iM (all_nil)) (all_cons ⟨Tryz.func52,by kernel_rfl⟩ all_nil) all_nil (by kernel_rfl) (by kernel_rfl) (fun ⟨a0,_⟩ x h=>⟨k,(iR.eq k a0).trans h⟩)
noncomputable def j5.m (k:Nat):Sm:=kE [.sp,(.int .i64),(.int .i64)] [.pl (.int .i64)] (fun a=>j5.f k a.1.f0 a.1.f1 a.2.1 a.2.2.1)
noncomputable def j5.E (k:Nat):kr:=⟨tL.tb,fun f=>lk f [(46,iY.m k)],fun _=>false⟩
noncomputable def j5.C {γ:Type}:Ctx γ:=⟨j5.E,[(125,Tryz.f125)],fun f=>(lk f [(125,⟨fun d=>jB d [],fun c=>lk c [],fun c=>lk c [],fun _=>none,fun _=>([],[])⟩)]).getD ⟨fun _=>false,fun _=>none,fun _=>none,fun _=>none,fun _=>([],[])⟩,[],[]⟩
theorem j5.jk {γ:Type}:(j5.C (γ:=γ)).Ok:=⟨(all_cons (fun k=>by kernel_rfl) all_nil),(all_cons (by kernel_rfl) all_nil),all_nil⟩
theorem j5.eq (k:Nat) (aa:Int) (ab:Int) (a1:Int) (a2:Int):j5.C.bK 0 125 Tryz.f125 k (iQ [.sp,(.int .i64),(.int .i64)] (⟨aa,ab⟩,a1,a2,())) (K0 [.pl (.int .i64)])=j5.f k aa ab a1 a2:=by kernel_rfl
theorem j5.ok (k:Nat):kM Tryz.prog 125 (j5.m k).s:=iG (C:=j5.C) j5.jk (n:=0) (fn:=Tryz.f125) mixed (fun _=>jL) nw0 (fun k=>iM (all_cons (iY.ok k) (all_nil))) (all_cons ⟨Tryz.func125,by kernel_rfl⟩ all_nil) all_nil (by kernel_rfl) (by kernel_rfl) (fun ⟨⟨aa,ab⟩,a1,a2,_⟩ x h=>⟨k,(j5.eq k aa ab a1 a2).trans h⟩)
noncomputable def jY.m (k:Nat):Sm:=kE [.sp,(.int .i64)] [.pl .bool] (fun a=>jY.f k a.1.f0 a.1.f1 a.2.1)
noncomputable def jY.E (k:Nat):kr:=⟨tL.tb,fun f=>lk f [],fun _=>false⟩
noncomputable def jY.C {γ:Type}:Ctx γ:=⟨jY.E,[(126,Tryz.f126)],fun f=>(lk f [(126,⟨fun d=>jB d [],fun c=>lk c [],fun c=>lk c [],fun _=>none,fun _=>([],[])⟩)]).getD ⟨fun _=>false,fun _=>none,fun _=>none,fun _=>none,fun _=>([],[])⟩,[],[]⟩
theorem jY.jk {γ:Type}:(jY.C (γ:=γ)).Ok:=⟨(all_cons (fun k=>by kernel_rfl) all_nil),(all_cons (by kernel_rfl) all_nil),all_nil⟩
theorem jY.eq (k:Nat) (aa:Int) (ab:Int) (a1:Int):jY.C.bK 0 126 Tryz.f126 k (iQ [.sp,(.int .i64)] (⟨aa,ab⟩,a1,())) (K0 [.pl .bool])=jY.f k aa ab a1:=by kernel_rfl
theorem jY.ok (k:Nat):kM Tryz.prog 126 (jY.m k).s:=iG (C:=jY.C) jY.jk (n:=0) (fn:=Tryz.f126) mixed (fun _=>jL) nw0 (fun k=>iM (all_nil)) (all_cons ⟨Tryz.func126,by kernel_rfl⟩ all_nil) all_nil (by kernel_rfl) (by kernel_rfl) (fun ⟨⟨aa,ab⟩,a1,_⟩ x h=>⟨k,(jY.eq k aa ab a1).trans h⟩)
noncomputable def kS.m (k:Nat):Sm:=kE [] [.fx [.v (.int .i64 1),.fn 60 [],.fn 125 [],.fn 126 []]] (fun a=>kS.f k)
noncomputable def kS.E (k:Nat):kr:=⟨tL.tb,fun f=>lk f [],fun _=>false⟩
noncomputable def kS.C {γ:Type}:Ctx γ:=⟨kS.E,[(87,Tryz.f87)],fun f=>(lk f [(87,⟨fun d=>jB d [],fun c=>lk c [],fun c=>lk c [],fun _=>none,fun _=>([],[])⟩)]).getD ⟨fun _=>false,fun _=>none,fun _=>none,fun _=>none,fun _=>([],[])⟩,[],[]⟩
theorem kS.jk {γ:Type}:(kS.C (γ:=γ)).Ok:=⟨(all_cons (fun k=>by kernel_rfl) all_nil),(all_cons (by kernel_rfl) all_nil),all_nil⟩
theorem kS.eq (k:Nat)  : kS.C.bK 0 87 Tryz.f87 k (iQ [] (())) (K0 [.fx [.v (.int .i64 1),.fn 60 [],.fn 125 [],.fn 126 []]])=kS.f k:=by kernel_rfl
theorem kS.ok (k:Nat):kM Tryz.prog 87 (kS.m k).s:=iG (C:=kS.C) kS.jk (n:=0) (fn:=Tryz.f87) mixed (fun _=>jL) nw0 (fun k=>iM (all_nil)) (all_cons ⟨Tryz.func87,by kernel_rfl⟩ all_nil) all_nil (by kernel_rfl) (by kernel_rfl) (fun _ x h=>⟨k,(kS.eq k ).trans h⟩)
end Go.Proofs.YtongeknogcboiaaGreat.R
