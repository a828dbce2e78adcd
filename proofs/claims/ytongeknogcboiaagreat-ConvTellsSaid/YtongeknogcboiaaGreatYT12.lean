/- Lemmas for laws of chapter 7: what the functions that they reach compute. No condition of its own. -/
import Derived.Test.YtongeknogcboiaaGreatYT9
import Derived.Test.YtongeknogcboiaaGreatYT11
namespace Go.Proofs.YtongeknogcboiaaGreat.R
open M Go.RowKit Go.Proofs.YtongeknogcboiaaGreatW.gq Go.Proofs.YtongeknogcboiaaGreatW.iE Go.Proofs.YtongeknogcboiaaGreatW.iR
set_option linter.unusedVariables false
variable [Inhabited WT]
end Go.Proofs.YtongeknogcboiaaGreat.R
namespace Go.Proofs.YtongeknogcboiaaGreat.R
open M Go.RowKit Go.Proofs.YtongeknogcboiaaGreatW.gq Go.Proofs.YtongeknogcboiaaGreatW.iE Go.Proofs.YtongeknogcboiaaGreatW.iR
set_option linter.unusedVariables false
noncomputable def iA.m (k:Nat):Sm:=ko [.fm] [.pl (.int .i64)] (fun a=>iA.f k a.1.f0 a.1.f1 a.1.f2 a.1.f3)
noncomputable def iA.l0.p:PS:=⟨[nO,.one (.bp 0 0),nO,.one (.i .i64)]++nOs 5++[.one (.s (.sl 41 .sp)),.one (.i .i64),.one (.i .i64)]++nOs 22,[.box 25 [.i .i64,.i .i64,.s (.sl 41 .sp),.s .gr]]⟩
noncomputable def iA.l0.c {γ:Type} (YK:HdK γ) (K:gJ→St→Option γ) (c5:Int) (c6:Int) (c7:List (List P.S41)) (c8:List P.S43):=(fun y1=>K (.exit 0) ((⟨[nO,.one (.bp 0 0),nO,.one (.i .i64)]++nOs 30,[.box 25 [.i .i64,.i .i64,.s (.sl 41 .sp),.s .gr]]⟩:PS).mk' [.i y1,.i c5,.i c6,.l (.sl 41 .sp) c7,.l .gr c8]))
noncomputable def iA.l0.g {γ:Type} (YK:HdK γ) (k:Nat) (K:gJ→St→Option γ):List Lf→Option γ
  | [.i v1,.l (.sl 41 .sp) c2,.i c3,.i v4,.i c5,.i c6,.l (.sl 41 .sp) c7,.l .gr c8]=>iA.l0 (iA.l0.c YK K c5 c6 c7 c8) c2 c3 k v1 v4
  | _=>none
noncomputable def iA.l1.p:PS:=⟨nOs 3++[.one (.i .i64)]++nOs 17++[.one (.s .gr),.one (.i .i64),.one (.i .i64)]++nOs 10,[.box 25 [.i .i64,.i .i64,.s (.sl 41 .sp),.s .gr]]⟩
noncomputable def iA.l1.c {γ:Type} (YK:HdK γ) (K:gJ→St→Option γ) (c5:Int) (c6:Int) (c7:List (List P.S41)) (c8:List P.S43):=(fun y1=>K (.exit 2) ((⟨nOs 3++[.one (.i .i64)]++nOs 30,[.box 25 [.i .i64,.i .i64,.s (.sl 41 .sp),.s .gr]]⟩:PS).mk' [.i y1,.i c5,.i c6,.l (.sl 41 .sp) c7,.l .gr c8]))
noncomputable def iA.l1.g {γ:Type} (YK:HdK γ) (k:Nat) (K:gJ→St→Option γ):List Lf→Option γ
  | [.i v1,.l .gr c2,.i c3,.i v4,.i c5,.i c6,.l (.sl 41 .sp) c7,.l .gr c8]=>iA.l1 (iA.l1.c YK K c5 c6 c7 c8) c2 c3 k v1 v4
  | _=>none
noncomputable def iA.C {γ:Type}:Ctx γ:=mkC (fun k=>mkE [] []) [(68,Tryz.f68)] [(68,mkA [] [(0,[1,3,9,10,11]),(2,[3,21,22,23])] [(0,[1,3]),(2,[3])] [])] [⟨0,68,0,jN [(iA.l0.p,iA.l0.g)]⟩,⟨0,68,2,jN [(iA.l1.p,iA.l1.g)]⟩] []
theorem iA.l0.eq {γ:Type} (YK:HdK γ) (rl:Option Nat) (K:gJ→St→Option γ) (c2:List (List P.S41)) (c3:Int) (c5:Int) (c6:Int) (c7:List (List P.S41)) (c8:List P.S43):∀ k:Nat,(fun (v1:Int) (v4:Int)=>iA.C.lK 0 68 0 Tryz.f68 YK rl 1 k (iA.l0.p.mk' [.i v1,.l (.sl 41 .sp) c2,.i c3,.i v4,.i c5,.i c6,.l (.sl 41 .sp) c7,.l .gr c8]) K)=(fun (v1:Int) (v4:Int)=>iA.l0.g YK k K [.i v1,.l (.sl 41 .sp) c2,.i c3,.i v4,.i c5,.i c6,.l (.sl 41 .sp) c7,.l .gr c8]):=iK (fun R k v1 v4=>iA.l0T (iA.l0.c YK K c5 c6 c7 c8) c2 c3 R k v1 v4) (by kernel_rfl) (fun k=>by kernel_rfl) (fun k=>by kernel_rfl)
theorem iA.l1.eq {γ:Type} (YK:HdK γ) (rl:Option Nat) (K:gJ→St→Option γ) (c2:List P.S43) (c3:Int) (c5:Int) (c6:Int) (c7:List (List P.S41)) (c8:List P.S43):∀ k:Nat,(fun (v1:Int) (v4:Int)=>iA.C.lK 0 68 2 Tryz.f68 YK rl 1 k (iA.l1.p.mk' [.i v1,.l .gr c2,.i c3,.i v4,.i c5,.i c6,.l (.sl 41 .sp) c7,.l .gr c8]) K)=(fun (v1:Int) (v4:Int)=>iA.l1.g YK k K [.i v1,.l .gr c2,.i c3,.i v4,.i c5,.i c6,.l (.sl 41 .sp) c7,.l .gr c8]):=iK (fun R k v1 v4=>iA.l1T (iA.l1.c YK K c5 c6 c7 c8) c2 c3 R k v1 v4) (by kernel_rfl) (fun k=>by kernel_rfl) (fun k=>by kernel_rfl)
theorem iA.iN {γ:Type}:(iA.C (γ:=γ)).Ok:=⟨(all_cons (fun k=>by kernel_rfl) all_nil),(all_cons (by kernel_rfl) all_nil),all_nil⟩
theorem iA.e0 {γ:Type}:jE (iA.C (γ:=γ)) ⟨0,68,0,jN [(iA.l0.p,iA.l0.g)]⟩:=iA.iN.lS Tryz.f68 [] (by kernel_rfl) (by kernel_rfl) (by kernel_rfl) (all_cons jR (all_cons jR all_nil)) (all_cons (fun YK rl k ls K v hv=>(show iA.l0.g YK k K ls=some v→_ from fun hv=>by
  unfold iA.l0.g at hv;split at hv
  · exact (congrFun (congrFun (iA.l0.eq YK rl K _ _ _ _ _ _ k) _) _).trans hv
  · cases hv) hv) all_nil)
theorem iA.e1 {γ:Type}:jE (iA.C (γ:=γ)) ⟨0,68,2,jN [(iA.l1.p,iA.l1.g)]⟩:=iA.iN.lS Tryz.f68 [] (by kernel_rfl) (by kernel_rfl) (by kernel_rfl) (all_cons jR (all_cons jR all_nil)) (all_cons (fun YK rl k ls K v hv=>(show iA.l1.g YK k K ls=some v→_ from fun hv=>by
  unfold iA.l1.g at hv;split at hv
  · exact (congrFun (congrFun (iA.l1.eq YK rl K _ _ _ _ _ _ k) _) _).trans hv
  · cases hv) hv) all_nil)
theorem iA.ok (k:Nat):j5 Tryz.prog 68 (iA.m k).s:=okW iA.iN 0 Tryz.f68 k all_nil (fun k=>all_nil) (all_cons ⟨Tryz.func68,by kernel_rfl⟩ all_nil) (all_cons iA.e0 (all_cons iA.e1 all_nil)) (by kernel_rfl) (by kernel_rfl) (fun a=>by kernel_rfl)
noncomputable def jh.m (k:Nat):Sm:=ko [.fm] [.pl .bool] (fun a=>jh.f k a.1.f0 a.1.f1 a.1.f2 a.1.f3)
noncomputable def jh.C {γ:Type}:Ctx γ:=mkC (fun k=>mkE [(68,iA.m k)] []) [(34,Tryz.f34)] [(34,mkA [] [] [] [])] [] []
theorem jh.iN {γ:Type}:(jh.C (γ:=γ)).Ok:=⟨(all_cons (fun k=>by kernel_rfl) all_nil),(all_cons (by kernel_rfl) all_nil),all_nil⟩
theorem jh.ok (k:Nat):j5 Tryz.prog 34 (jh.m k).s:=okW jh.iN 0 Tryz.f34 k all_nil (fun k=>all_cons (iA.ok k) (all_nil)) (all_cons ⟨Tryz.func34,by kernel_rfl⟩ all_nil) all_nil (by kernel_rfl) (by kernel_rfl) (fun a=>by kernel_rfl)
noncomputable def jD.m (k:Nat):Sm:=ko [(.int .i64)] [.pl .bool] (fun a=>jD.f k a.1)
noncomputable def jD.C {γ:Type}:Ctx γ:=mkC (fun k=>mkE [] []) [(37,Tryz.f37)] [(37,mkA [] [] [] [])] [] []
theorem jD.iN {γ:Type}:(jD.C (γ:=γ)).Ok:=⟨(all_cons (fun k=>by kernel_rfl) all_nil),(all_cons (by kernel_rfl) all_nil),all_nil⟩
theorem jD.ok (k:Nat):j5 Tryz.prog 37 (jD.m k).s:=okW jD.iN 0 Tryz.f37 k all_nil (fun k=>all_nil) (all_cons ⟨Tryz.func37,by kernel_rfl⟩ all_nil) all_nil (by kernel_rfl) (by kernel_rfl) (fun a=>by kernel_rfl)
noncomputable def jS.m (k:Nat):Sm:=ko [(.int .i64)] [.pl .bool] (fun a=>jS.f k a.1)
noncomputable def jS.C {γ:Type}:Ctx γ:=mkC (fun k=>mkE [] []) [(75,Tryz.f75)] [(75,mkA [] [] [] [])] [] []
theorem jS.iN {γ:Type}:(jS.C (γ:=γ)).Ok:=⟨(all_cons (fun k=>by kernel_rfl) all_nil),(all_cons (by kernel_rfl) all_nil),all_nil⟩
theorem jS.ok (k:Nat):j5 Tryz.prog 75 (jS.m k).s:=okW jS.iN 0 Tryz.f75 k all_nil (fun k=>all_nil) (all_cons ⟨Tryz.func75,by kernel_rfl⟩ all_nil) all_nil (by kernel_rfl) (by kernel_rfl) (fun a=>by kernel_rfl)
noncomputable def iF.m (k:Nat):Sm:=ko [(.sl 41 .sp)] [.pl .bool] (fun a=>iF.f k a.1)
noncomputable def iF.l0.p:PS:=⟨[.one (.s .sp)]++nOs 4++[.one (.s .sp),.one (.i .i64),.one (.i .i64)]++nOs 38,[]⟩
noncomputable def iF.l0.c {γ:Type} (YK:HdK γ) (K:gJ→St→Option γ)  := ((K .ret ((⟨[nO,nO,.one (.lb false)]++nOs 43,[]⟩:PS).mk' [])),(K (.exit 0) ((⟨nOs 46,[]⟩:PS).mk' [])))
noncomputable def iF.l0.g {γ:Type} (YK:HdK γ) (k:Nat) (K:gJ→St→Option γ):List Lf→Option γ
  | [.l .sp c1,.l .sp c2,.i c3,.i v4]=>let q:=iF.l0.c YK K;iF.l0 q.1 q.2 c1 c2 c3 k v4
  | _=>none
noncomputable def iF.C {γ:Type}:Ctx γ:=mkC (fun k=>mkE [(75,jS.m k)] []) [(108,Tryz.f108)] [(108,mkA [] [(0,[0,5,6,7])] [(0,[2])] [])] [⟨0,108,0,jN [(iF.l0.p,iF.l0.g)]⟩] []
theorem iF.l0.eq {γ:Type} (YK:HdK γ) (rl:Option Nat) (K:gJ→St→Option γ) (c1:List P.S41) (c2:List P.S41) (c3:Int):∀ k:Nat,(fun (v4:Int)=>iF.C.lK 0 108 0 Tryz.f108 YK rl 0 k (iF.l0.p.mk' [.l .sp c1,.l .sp c2,.i c3,.i v4]) K)=(fun (v4:Int)=>iF.l0.g YK k K [.l .sp c1,.l .sp c2,.i c3,.i v4]):=iK (fun R k v4=>iF.l0T (iF.l0.c YK K).1 (iF.l0.c YK K).2 c1 c2 c3 R k v4) (by kernel_rfl) (fun k=>by kernel_rfl) (fun k=>by kernel_rfl)
theorem iF.iN {γ:Type}:(iF.C (γ:=γ)).Ok:=⟨(all_cons (fun k=>by kernel_rfl) all_nil),(all_cons (by kernel_rfl) all_nil),all_nil⟩
theorem iF.e0 {γ:Type}:jE (iF.C (γ:=γ)) ⟨0,108,0,jN [(iF.l0.p,iF.l0.g)]⟩:=iF.iN.lS Tryz.f108 [] (by kernel_rfl) (by kernel_rfl) (by kernel_rfl) (all_cons jR all_nil) (all_cons (fun YK rl k ls K v hv=>(show iF.l0.g YK k K ls=some v→_ from fun hv=>by
  unfold iF.l0.g at hv;split at hv
  · exact (congrFun (iF.l0.eq YK rl K _ _ _ k) _).trans hv
  · cases hv) hv) all_nil)
theorem iF.ok (k:Nat):j5 Tryz.prog 108 (iF.m k).s:=okW iF.iN 0 Tryz.f108 k all_nil (fun k=>all_cons (jS.ok k) (all_nil)) (all_cons ⟨Tryz.func108,by kernel_rfl⟩ all_nil) (all_cons iF.e0 all_nil) (by kernel_rfl) (by kernel_rfl) (fun a=>by kernel_rfl)
noncomputable def gy.m (k:Nat):Sm:=ko [.fm] [.pl .bool] (fun a=>gy.f k a.1.f0 a.1.f1 a.1.f2 a.1.f3)
noncomputable def gy.l1.p:PS:=⟨[nO,.one (.bp 0 0)]++nOs 31++[.one (.s (.sl 41 .sp)),.one (.i .i64),.one (.i .i64)]++nOs 42,[.box 25 [.i .i64,.i .i64,.s (.sl 41 .sp),.s .gr]]⟩
noncomputable def gy.l1.c {γ:Type} (YK:HdK γ) (K:gJ→St→Option γ) (c4:Int) (c5:Int) (c6:List (List P.S41)) (c7:List P.S43):=((K .ret ((⟨[nO,.one (.bp 0 0),.one (.lb false)]++nOs 75,[.box 25 [.i .i64,.i .i64,.s (.sl 41 .sp),.s .gr]]⟩:PS).mk' [.i c4,.i c5,.l (.sl 41 .sp) c6,.l .gr c7])),(K (.exit 0) ((⟨[nO,.one (.bp 0 0)]++nOs 76,[.box 25 [.i .i64,.i .i64,.s (.sl 41 .sp),.s .gr]]⟩:PS).mk' [.i c4,.i c5,.l (.sl 41 .sp) c6,.l .gr c7])))
noncomputable def gy.l1.g {γ:Type} (YK:HdK γ) (k:Nat) (K:gJ→St→Option γ):List Lf→Option γ
  | [.l (.sl 41 .sp) c1,.i c2,.i v3,.i c4,.i c5,.l (.sl 41 .sp) c6,.l .gr c7]=>let q:=gy.l1.c YK K c4 c5 c6 c7;gy.l1 q.1 q.2 c1 c2 k v3
  | _=>none
noncomputable def gy.l2.p:PS:=⟨[nO,.one (.bp 0 0)]++nOs 42++[.one (.s .gr),.one (.i .i64),.one (.i .i64)]++nOs 31,[.box 25 [.i .i64,.i .i64,.s (.sl 41 .sp),.s .gr]]⟩
noncomputable def gy.l2.c {γ:Type} (YK:HdK γ) (K:gJ→St→Option γ) (c4:Int) (c5:Int) (c6:List (List P.S41)) (c7:List P.S43):=((K .ret ((⟨[nO,nO,.one (.lb false)]++nOs 75,[.box 25 [.i .i64,.i .i64,.s (.sl 41 .sp),.s .gr]]⟩:PS).mk' [.i c4,.i c5,.l (.sl 41 .sp) c6,.l .gr c7])),(K (.exit 2) ((⟨nOs 78,[.box 25 [.i .i64,.i .i64,.s (.sl 41 .sp),.s .gr]]⟩:PS).mk' [.i c4,.i c5,.l (.sl 41 .sp) c6,.l .gr c7])))
noncomputable def gy.l2.g {γ:Type} (YK:HdK γ) (k:Nat) (K:gJ→St→Option γ):List Lf→Option γ
  | [.l .gr c1,.i c2,.i v3,.i c4,.i c5,.l (.sl 41 .sp) c6,.l .gr c7]=>let q:=gy.l2.c YK K c4 c5 c6 c7;gy.l2 q.1 q.2 c1 c2 c7 k v3
  | _=>none
noncomputable def gy.l0.p:PS:=⟨[nO,.one (.bp 0 0)]++nOs 76,[.box 25 [.i .i64,.i .i64,.s (.sl 41 .sp),.s .gr]]⟩
noncomputable def gy.l0.c {γ:Type} (YK:HdK γ) (K:gJ→St→Option γ)  := ((fun y1 y2 y3 y4=>K .ret ((⟨[nO,nO,.one (.lb false)]++nOs 75,[.box 25 [.i .i64,.i .i64,.s (.sl 41 .sp),.s .gr]]⟩:PS).mk' [.i y1,.i y2,.l (.sl 41 .sp) y3,.l .gr y4])),(fun y1 y2 y3 y4=>K .ret ((⟨[nO,nO,.one (.lb true)]++nOs 75,[.box 25 [.i .i64,.i .i64,.s (.sl 41 .sp),.s .gr]]⟩:PS).mk' [.i y1,.i y2,.l (.sl 41 .sp) y3,.l .gr y4])))
noncomputable def gy.l0.g {γ:Type} (YK:HdK γ) (k:Nat) (K:gJ→St→Option γ):List Lf→Option γ
  | [.i v1,.i v2,.l (.sl 41 .sp) v3,.l .gr v4]=>let q:=gy.l0.c YK K;gy.l0 q.1 q.2 k v1 v2 v3 v4
  | _=>none
noncomputable def gy.C {γ:Type}:Ctx γ:=mkC (fun k=>mkE [(37,jD.m k),(108,iF.m k)] []) [(69,Tryz.f69)] [(69,mkA [] [(0,[1,33,34,35]),(2,[1,44,45,46]),(1000010,[1])] [(0,[1,2]),(2,[2]),(1000010,[2])] [])] [⟨0,69,0,jN [(gy.l1.p,gy.l1.g)]⟩,⟨0,69,2,jN [(gy.l2.p,gy.l2.g)]⟩,⟨0,69,1000010,jN [(gy.l0.p,gy.l0.g)]⟩] []
theorem gy.l1.eq {γ:Type} (YK:HdK γ) (rl:Option Nat) (K:gJ→St→Option γ) (c1:List (List P.S41)) (c2:Int) (c4:Int) (c5:Int) (c6:List (List P.S41)) (c7:List P.S43):∀ k:Nat,(fun (v3:Int)=>gy.C.lK 0 69 0 Tryz.f69 YK rl 1 k (gy.l1.p.mk' [.l (.sl 41 .sp) c1,.i c2,.i v3,.i c4,.i c5,.l (.sl 41 .sp) c6,.l .gr c7]) K)=(fun (v3:Int)=>gy.l1.g YK k K [.l (.sl 41 .sp) c1,.i c2,.i v3,.i c4,.i c5,.l (.sl 41 .sp) c6,.l .gr c7]):=iK (fun R k v3=>gy.l1T (gy.l1.c YK K c4 c5 c6 c7).1 (gy.l1.c YK K c4 c5 c6 c7).2 c1 c2 R k v3) (by kernel_rfl) (fun k=>by kernel_rfl) (fun k=>by kernel_rfl)
theorem gy.l2.eq {γ:Type} (YK:HdK γ) (rl:Option Nat) (K:gJ→St→Option γ) (c1:List P.S43) (c2:Int) (c4:Int) (c5:Int) (c6:List (List P.S41)) (c7:List P.S43):∀ k:Nat,(fun (v3:Int)=>gy.C.lK 0 69 2 Tryz.f69 YK rl 1 k (gy.l2.p.mk' [.l .gr c1,.i c2,.i v3,.i c4,.i c5,.l (.sl 41 .sp) c6,.l .gr c7]) K)=(fun (v3:Int)=>gy.l2.g YK k K [.l .gr c1,.i c2,.i v3,.i c4,.i c5,.l (.sl 41 .sp) c6,.l .gr c7]):=iK (fun R k v3=>gy.l2T (gy.l2.c YK K c4 c5 c6 c7).1 (gy.l2.c YK K c4 c5 c6 c7).2 c1 c2 c7 R k v3) (by kernel_rfl) (fun k=>by kernel_rfl) (fun k=>by kernel_rfl)
theorem gy.l0.eq {γ:Type} (YK:HdK γ) (rl:Option Nat) (K:gJ→St→Option γ) (k:Nat) (v1:Int) (v2:Int) (v3:List (List P.S41)) (v4:List P.S43):gy.C.lK 0 69 1000010 Tryz.f69 YK rl 1 k (gy.l0.p.mk' [.i v1,.i v2,.l (.sl 41 .sp) v3,.l .gr v4]) K=gy.l0.g YK k K [.i v1,.i v2,.l (.sl 41 .sp) v3,.l .gr v4]:=by kernel_rfl
theorem gy.iN {γ:Type}:(gy.C (γ:=γ)).Ok:=⟨(all_cons (fun k=>by kernel_rfl) all_nil),(all_cons (by kernel_rfl) all_nil),all_nil⟩
theorem gy.e0 {γ:Type}:jE (gy.C (γ:=γ)) ⟨0,69,0,jN [(gy.l1.p,gy.l1.g)]⟩:=gy.iN.lS Tryz.f69 [] (by kernel_rfl) (by kernel_rfl) (by kernel_rfl) (all_cons jR (all_cons jR (all_cons jR all_nil))) (all_cons (fun YK rl k ls K v hv=>(show gy.l1.g YK k K ls=some v→_ from fun hv=>by
  unfold gy.l1.g at hv;split at hv
  · exact (congrFun (gy.l1.eq YK rl K _ _ _ _ _ _ k) _).trans hv
  · cases hv) hv) all_nil)
theorem gy.e1 {γ:Type}:jE (gy.C (γ:=γ)) ⟨0,69,2,jN [(gy.l2.p,gy.l2.g)]⟩:=gy.iN.lS Tryz.f69 [] (by kernel_rfl) (by kernel_rfl) (by kernel_rfl) (all_cons jR (all_cons jR (all_cons jR all_nil))) (all_cons (fun YK rl k ls K v hv=>(show gy.l2.g YK k K ls=some v→_ from fun hv=>by
  unfold gy.l2.g at hv;split at hv
  · exact (congrFun (gy.l2.eq YK rl K _ _ _ _ _ _ k) _).trans hv
  · cases hv) hv) all_nil)
theorem gy.e2 {γ:Type}:jE (gy.C (γ:=γ)) ⟨0,69,1000010,jN [(gy.l0.p,gy.l0.g)]⟩:=gy.iN.lS Tryz.f69 [0,2] (by kernel_rfl) (by kernel_rfl) (by kernel_rfl) (all_cons (fun _=>gy.e0) (all_cons (fun _=>gy.e1) (all_cons jR all_nil))) (all_cons (fun YK rl k ls K v hv=>(show gy.l0.g YK k K ls=some v→_ from fun hv=>by
  unfold gy.l0.g at hv;split at hv
  · exact (gy.l0.eq YK rl K k _ _ _ _).trans hv
  · cases hv) hv) all_nil)
theorem gy.ok (k:Nat):j5 Tryz.prog 69 (gy.m k).s:=okW gy.iN 0 Tryz.f69 k all_nil (fun k=>all_cons (jD.ok k) (all_cons (iF.ok k) (all_nil))) (all_cons ⟨Tryz.func69,by kernel_rfl⟩ all_nil) (all_cons gy.e0 (all_cons gy.e1 (all_cons gy.e2 all_nil))) (by kernel_rfl) (by kernel_rfl) (fun a=>by kernel_rfl)
noncomputable def gV.m (k:Nat):Sm:=ko [.fm] [.pl .bool] (fun a=>gV.f k a.1.f0 a.1.f1 a.1.f2 a.1.f3)
noncomputable def gV.l0.p:PS:=⟨[nO,.one (.bp 0 0),nO,.one (.o 28 (.sl 41 .sp))]++nOs 7++[.one (.s (.sl 41 .sp)),.one (.i .i64),.one (.i .i64)]++nOs 48,[.box 25 [.i .i64,.i .i64,.s (.sl 41 .sp),.s .gr]]⟩
noncomputable def gV.l0.c {γ:Type} (YK:HdK γ) (K:gJ→St→Option γ) (c5:Int) (c6:Int) (c7:List (List P.S41)) (c8:List P.S43):=(fun y1=>K (.exit 0) ((⟨[nO,.one (.bp 0 0),nO,.one (.o 28 (.sl 41 .sp))]++nOs 58,[.box 25 [.i .i64,.i .i64,.s (.sl 41 .sp),.s .gr]]⟩:PS).mk' [.l (.sl 41 .sp) y1,.i c5,.i c6,.l (.sl 41 .sp) c7,.l .gr c8]))
noncomputable def gV.l0.g {γ:Type} (YK:HdK γ) (k:Nat) (K:gJ→St→Option γ):List Lf→Option γ
  | [.l (.sl 41 .sp) v1,.l (.sl 41 .sp) c2,.i c3,.i v4,.i c5,.i c6,.l (.sl 41 .sp) c7,.l .gr c8]=>gV.l0 (gV.l0.c YK K c5 c6 c7 c8) c2 c3 k v1 v4
  | _=>none
noncomputable def gV.l1.p:PS:=⟨[nO,.one (.bp 0 0),nO,.one (.o 28 (.sl 41 .sp))]++nOs 21++[.one (.s (.sl 41 .sp)),.one (.i .i64),.one (.i .i64)]++nOs 34,[.box 25 [.i .i64,.i .i64,.s (.sl 41 .sp),.s .gr]]⟩
noncomputable def gV.l1.c {γ:Type} (YK:HdK γ) (K:gJ→St→Option γ) (c5:Int) (c6:Int) (c7:List (List P.S41)) (c8:List P.S43):=((K .ret ((⟨[nO,nO,.one (.lb false)]++nOs 59,[.box 25 [.i .i64,.i .i64,.s (.sl 41 .sp),.s .gr]]⟩:PS).mk' [.i c5,.i c6,.l (.sl 41 .sp) c7,.l .gr c8])),(K (.exit 2) ((⟨nOs 62,[.box 25 [.i .i64,.i .i64,.s (.sl 41 .sp),.s .gr]]⟩:PS).mk' [.i c5,.i c6,.l (.sl 41 .sp) c7,.l .gr c8])))
noncomputable def gV.l1.g {γ:Type} (YK:HdK γ) (k:Nat) (K:gJ→St→Option γ):List Lf→Option γ
  | [.l (.sl 41 .sp) c1,.l (.sl 41 .sp) c2,.i c3,.i v4,.i c5,.i c6,.l (.sl 41 .sp) c7,.l .gr c8]=>let q:=gV.l1.c YK K c5 c6 c7 c8;gV.l1 q.1 q.2 c1 c2 c3 c5 k v4
  | _=>none
noncomputable def gV.C {γ:Type}:Ctx γ:=mkC (fun k=>mkE [] []) [(70,Tryz.f70)] [(70,mkA [20] [(0,[1,3,11,12,13]),(2,[1,3,25,26,27])] [(0,[1,3]),(2,[2])] [])] [⟨0,70,0,jN [(gV.l0.p,gV.l0.g)]⟩,⟨0,70,2,jN [(gV.l1.p,gV.l1.g)]⟩] []
theorem gV.l0.eq {γ:Type} (YK:HdK γ) (rl:Option Nat) (K:gJ→St→Option γ) (c2:List (List P.S41)) (c3:Int) (c5:Int) (c6:Int) (c7:List (List P.S41)) (c8:List P.S43):∀ k:Nat,(fun (v1:List (List P.S41)) (v4:Int)=>gV.C.lK 0 70 0 Tryz.f70 YK rl 1 k (gV.l0.p.mk' [.l (.sl 41 .sp) v1,.l (.sl 41 .sp) c2,.i c3,.i v4,.i c5,.i c6,.l (.sl 41 .sp) c7,.l .gr c8]) K)=(fun (v1:List (List P.S41)) (v4:Int)=>gV.l0.g YK k K [.l (.sl 41 .sp) v1,.l (.sl 41 .sp) c2,.i c3,.i v4,.i c5,.i c6,.l (.sl 41 .sp) c7,.l .gr c8]):=iK (fun R k v1 v4=>gV.l0T (gV.l0.c YK K c5 c6 c7 c8) c2 c3 R k v1 v4) (by kernel_rfl) (fun k=>by kernel_rfl) (fun k=>by kernel_rfl)
theorem gV.l1.eq {γ:Type} (YK:HdK γ) (rl:Option Nat) (K:gJ→St→Option γ) (c1:List (List P.S41)) (c2:List (List P.S41)) (c3:Int) (c5:Int) (c6:Int) (c7:List (List P.S41)) (c8:List P.S43):∀ k:Nat,(fun (v4:Int)=>gV.C.lK 0 70 2 Tryz.f70 YK rl 1 k (gV.l1.p.mk' [.l (.sl 41 .sp) c1,.l (.sl 41 .sp) c2,.i c3,.i v4,.i c5,.i c6,.l (.sl 41 .sp) c7,.l .gr c8]) K)=(fun (v4:Int)=>gV.l1.g YK k K [.l (.sl 41 .sp) c1,.l (.sl 41 .sp) c2,.i c3,.i v4,.i c5,.i c6,.l (.sl 41 .sp) c7,.l .gr c8]):=iK (fun R k v4=>gV.l1T (gV.l1.c YK K c5 c6 c7 c8).1 (gV.l1.c YK K c5 c6 c7 c8).2 c1 c2 c3 c5 R k v4) (by kernel_rfl) (fun k=>by kernel_rfl) (fun k=>by kernel_rfl)
theorem gV.iN {γ:Type}:(gV.C (γ:=γ)).Ok:=⟨(all_cons (fun k=>by kernel_rfl) all_nil),(all_cons (by kernel_rfl) all_nil),all_nil⟩
theorem gV.e0 {γ:Type}:jE (gV.C (γ:=γ)) ⟨0,70,0,jN [(gV.l0.p,gV.l0.g)]⟩:=gV.iN.lS Tryz.f70 [] (by kernel_rfl) (by kernel_rfl) (by kernel_rfl) (all_cons jR (all_cons jR all_nil)) (all_cons (fun YK rl k ls K v hv=>(show gV.l0.g YK k K ls=some v→_ from fun hv=>by
  unfold gV.l0.g at hv;split at hv
  · exact (congrFun (congrFun (gV.l0.eq YK rl K _ _ _ _ _ _ k) _) _).trans hv
  · cases hv) hv) all_nil)
theorem gV.e1 {γ:Type}:jE (gV.C (γ:=γ)) ⟨0,70,2,jN [(gV.l1.p,gV.l1.g)]⟩:=gV.iN.lS Tryz.f70 [] (by kernel_rfl) (by kernel_rfl) (by kernel_rfl) (all_cons jR (all_cons jR all_nil)) (all_cons (fun YK rl k ls K v hv=>(show gV.l1.g YK k K ls=some v→_ from fun hv=>by
  unfold gV.l1.g at hv;split at hv
  · exact (congrFun (gV.l1.eq YK rl K _ _ _ _ _ _ _ k) _).trans hv
  · cases hv) hv) all_nil)
theorem gV.ok (k:Nat):j5 Tryz.prog 70 (gV.m k).s:=okW gV.iN 0 Tryz.f70 k all_nil (fun k=>all_nil) (all_cons ⟨Tryz.func70,by kernel_rfl⟩ all_nil) (all_cons gV.e0 (all_cons gV.e1 all_nil)) (by kernel_rfl) (by kernel_rfl) (fun a=>by kernel_rfl)
noncomputable def jm.m (k:Nat):Sm:=ko [(.int .i64),(.int .i64)] [.pl (.int .i64),.pl (.int .i64),.pl (.int .i64)] (fun a=>jm.f k a.1 a.2.1)
noncomputable def jm.C {γ:Type}:Ctx γ:=mkC (fun k=>mkE [] []) [(46,Tryz.f46)] [(46,mkA [] [] [] [])] [] []
theorem jm.iN {γ:Type}:(jm.C (γ:=γ)).Ok:=⟨(all_cons (fun k=>by kernel_rfl) all_nil),(all_cons (by kernel_rfl) all_nil),all_nil⟩
theorem jm.ok (k:Nat):j5 Tryz.prog 46 (jm.m k).s:=okW jm.iN 0 Tryz.f46 k all_nil (fun k=>all_nil) (all_cons ⟨Tryz.func46,by kernel_rfl⟩ all_nil) all_nil (by kernel_rfl) (by kernel_rfl) (fun a=>by kernel_rfl)
noncomputable def cmp_isNaN_int.m (k:Nat):Sm:=ko [(.int .i64)] [.pl .bool] (fun a=>cmp_isNaN_int.f k a.1)
noncomputable def cmp_isNaN_int.C {γ:Type}:Ctx γ:=mkC (fun k=>mkE [] []) [(144,Tryz.f144)] [(144,mkA [] [] [] [])] [] []
theorem cmp_isNaN_int.iN {γ:Type}:(cmp_isNaN_int.C (γ:=γ)).Ok:=⟨(all_cons (fun k=>by kernel_rfl) all_nil),(all_cons (by kernel_rfl) all_nil),all_nil⟩
theorem cmp_isNaN_int.ok (k:Nat):j5 Tryz.prog 144 (cmp_isNaN_int.m k).s:=okW cmp_isNaN_int.iN 0 Tryz.f144 k all_nil (fun k=>all_nil) (all_cons ⟨Tryz.func144,by kernel_rfl⟩ all_nil) all_nil (by kernel_rfl) (by kernel_rfl) (fun a=>by kernel_rfl)
noncomputable def cmp_Compare_int.m (k:Nat):Sm:=ko [(.int .i64),(.int .i64)] [.pl (.int .i64)] (fun a=>cmp_Compare_int.f k a.1 a.2.1)
noncomputable def cmp_Compare_int.C {γ:Type}:Ctx γ:=mkC (fun k=>mkE [(144,cmp_isNaN_int.m k)] []) [(112,Tryz.f112)] [(112,mkA [] [] [] [])] [] []
theorem cmp_Compare_int.iN {γ:Type}:(cmp_Compare_int.C (γ:=γ)).Ok:=⟨(all_cons (fun k=>by kernel_rfl) all_nil),(all_cons (by kernel_rfl) all_nil),all_nil⟩
theorem cmp_Compare_int.ok (k:Nat):j5 Tryz.prog 112 (cmp_Compare_int.m k).s:=okW cmp_Compare_int.iN 0 Tryz.f112 k all_nil (fun k=>all_cons (cmp_isNaN_int.ok k) (all_nil)) (all_cons ⟨Tryz.func112,by kernel_rfl⟩ all_nil) all_nil (by kernel_rfl) (by kernel_rfl) (fun a=>by kernel_rfl)
noncomputable def kG.m (k:Nat):Sm:=ko [.gr,(.int .i64)] [.pl (.int .i64)] (fun a=>kG.f k a.1.f0 a.1.f1 a.2.1)
noncomputable def kG.C {γ:Type}:Ctx γ:=mkC (fun k=>mkE [(112,cmp_Compare_int.m k)] []) [(111,Tryz.f111)] [(111,mkA [] [] [] [])] [] []
theorem kG.iN {γ:Type}:(kG.C (γ:=γ)).Ok:=⟨(all_cons (fun k=>by kernel_rfl) all_nil),(all_cons (by kernel_rfl) all_nil),all_nil⟩
theorem kG.ok (k:Nat):j5 Tryz.prog 111 (kG.m k).s:=okW kG.iN 0 Tryz.f111 k all_nil (fun k=>all_cons (cmp_Compare_int.ok k) (all_nil)) (all_cons ⟨Tryz.func111,by kernel_rfl⟩ all_nil) all_nil (by kernel_rfl) (by kernel_rfl) (fun a=>by kernel_rfl)
noncomputable def iT.m (k:Nat):Sm:=ko [.fm,(.int .i64)] [.pl (.int .i64),.pl .bool] (fun a=>iT.f k a.1.f0 a.1.f1 a.1.f2 a.1.f3 a.2.1)
noncomputable def iT.l0.p:PS:=⟨[.one (.s .gr),.one (.i .i64),.one (.fn 111 [])]++nOs 5++[.one (.i .i64),.one (.i .i64),.one (.i .i64)]++nOs 38,[.box 25 [.i .i64,.i .i64,.s (.sl 41 .sp),.s .gr]]⟩
noncomputable def iT.l0.c {γ:Type} (YK:HdK γ) (K:gJ→St→Option γ) (c1:List P.S43) (c2:Int) (c3:Int) (c6:Int) (c7:Int) (c8:List (List P.S41)) (c9:List P.S43):=(fun y1=>K (.exit 0) ((⟨[.one (.s .gr),.one (.i .i64),.one (.fn 111 [])]++nOs 5++[.one (.i .i64),.one (.i .i64)]++nOs 39,[.box 25 [.i .i64,.i .i64,.s (.sl 41 .sp),.s .gr]]⟩:PS).mk' [.l .gr c1,.i c2,.i c3,.i y1,.i c6,.i c7,.l (.sl 41 .sp) c8,.l .gr c9]))
noncomputable def iT.l0.g {γ:Type} (YK:HdK γ) (k:Nat) (K:gJ→St→Option γ):List Lf→Option γ
  | [.l .gr c1,.i c2,.i c3,.i v4,.i v5,.i c6,.i c7,.l (.sl 41 .sp) c8,.l .gr c9]=>iT.l0 (iT.l0.c YK K c1 c2 c3 c6 c7 c8 c9) c1 c2 k v4 v5
  | _=>none
noncomputable def iT.C {γ:Type}:Ctx γ:=mkC (fun k=>mkE [(111,kG.m k)] []) [(72,Tryz.f72),(110,Tryz.f110)] [(72,mkA [] [] [] []),(110,mkA [] [(0,[0,1,2,8,9,10])] [(0,[0,1,2,8,9])] [])] [⟨0,110,0,jN [(iT.l0.p,iT.l0.g)]⟩] []
theorem iT.l0.eq {γ:Type} (YK:HdK γ) (rl:Option Nat) (K:gJ→St→Option γ) (c1:List P.S43) (c2:Int) (c3:Int) (c6:Int) (c7:Int) (c8:List (List P.S41)) (c9:List P.S43):∀ k:Nat,(fun (v4:Int) (v5:Int)=>iT.C.lK 0 110 0 Tryz.f110 YK rl 1 k (iT.l0.p.mk' [.l .gr c1,.i c2,.i c3,.i v4,.i v5,.i c6,.i c7,.l (.sl 41 .sp) c8,.l .gr c9]) K)=(fun (v4:Int) (v5:Int)=>iT.l0.g YK k K [.l .gr c1,.i c2,.i c3,.i v4,.i v5,.i c6,.i c7,.l (.sl 41 .sp) c8,.l .gr c9]):=iK (fun R k v4 v5=>iT.l0T (iT.l0.c YK K c1 c2 c3 c6 c7 c8 c9) c1 c2 R k v4 v5) (by kernel_rfl) (fun k=>by kernel_rfl) (fun k=>by kernel_rfl)
theorem iT.iN {γ:Type}:(iT.C (γ:=γ)).Ok:=⟨(all_cons (fun k=>by kernel_rfl) (all_cons (fun k=>by kernel_rfl) all_nil)),(all_cons (by kernel_rfl) (all_cons (by kernel_rfl) all_nil)),all_nil⟩
theorem iT.e0 {γ:Type}:jE (iT.C (γ:=γ)) ⟨0,110,0,jN [(iT.l0.p,iT.l0.g)]⟩:=iT.iN.lS Tryz.f110 [] (by kernel_rfl) (by kernel_rfl) (by kernel_rfl) (all_cons jR all_nil) (all_cons (fun YK rl k ls K v hv=>(show iT.l0.g YK k K ls=some v→_ from fun hv=>by
  unfold iT.l0.g at hv;split at hv
  · exact (congrFun (congrFun (iT.l0.eq YK rl K _ _ _ _ _ _ _ k) _) _).trans hv
  · cases hv) hv) all_nil)
theorem iT.ok (k:Nat):j5 Tryz.prog 72 (iT.m k).s:=okW iT.iN 1 Tryz.f72 k all_nil (fun k=>all_cons (kG.ok k) (all_nil)) (all_cons ⟨Tryz.func72,by kernel_rfl⟩ (all_cons ⟨Tryz.func110,by kernel_rfl⟩ all_nil)) (all_cons iT.e0 all_nil) (by kernel_rfl) (by kernel_rfl) (fun a=>by kernel_rfl)
noncomputable def bits_Mul64.m (k:Nat):Sm:=ko [(.int .u64),(.int .u64)] [.pl (.int .u64),.pl (.int .u64)] (fun a=>bits_Mul64.f k a.1 a.2.1)
noncomputable def bits_Mul64.C {γ:Type}:Ctx γ:=mkC (fun k=>mkE [] []) [(113,Tryz.f113)] [(113,mkA [] [] [] [])] [] []
theorem bits_Mul64.iN {γ:Type}:(bits_Mul64.C (γ:=γ)).Ok:=⟨(all_cons (fun k=>by kernel_rfl) all_nil),(all_cons (by kernel_rfl) all_nil),all_nil⟩
theorem bits_Mul64.ok (k:Nat):j5 Tryz.prog 113 (bits_Mul64.m k).s:=okW bits_Mul64.iN 0 Tryz.f113 k all_nil (fun k=>all_nil) (all_cons ⟨Tryz.func113,by kernel_rfl⟩ all_nil) all_nil (by kernel_rfl) (by kernel_rfl) (fun a=>by kernel_rfl)
noncomputable def kg.m (k:Nat):Sm:=ko [(.int .i64)] [.pl (.int .u64)] (fun a=>kg.f k a.1)
noncomputable def kg.C {γ:Type}:Ctx γ:=mkC (fun k=>mkE [] []) [(114,Tryz.f114)] [(114,mkA [] [] [] [])] [] []
theorem kg.iN {γ:Type}:(kg.C (γ:=γ)).Ok:=⟨(all_cons (fun k=>by kernel_rfl) all_nil),(all_cons (by kernel_rfl) all_nil),all_nil⟩
theorem kg.ok (k:Nat):j5 Tryz.prog 114 (kg.m k).s:=okW kg.iN 0 Tryz.f114 k all_nil (fun k=>all_nil) (all_cons ⟨Tryz.func114,by kernel_rfl⟩ all_nil) all_nil (by kernel_rfl) (by kernel_rfl) (fun a=>by kernel_rfl)
noncomputable def jP.m (k:Nat):Sm:=ko [(.int .u64),.bool] [.pl (.int .i64),.pl (.int .i64)] (fun a=>jP.f k a.1 a.2.1)
noncomputable def jP.C {γ:Type}:Ctx γ:=mkC (fun k=>mkE [] []) [(115,Tryz.f115)] [(115,mkA [] [] [] [])] [] []
theorem jP.iN {γ:Type}:(jP.C (γ:=γ)).Ok:=⟨(all_cons (fun k=>by kernel_rfl) all_nil),(all_cons (by kernel_rfl) all_nil),all_nil⟩
theorem jP.ok (k:Nat):j5 Tryz.prog 115 (jP.m k).s:=okW jP.iN 0 Tryz.f115 k all_nil (fun k=>all_nil) (all_cons ⟨Tryz.func115,by kernel_rfl⟩ all_nil) all_nil (by kernel_rfl) (by kernel_rfl) (fun a=>by kernel_rfl)
noncomputable def kH.m (k:Nat):Sm:=ko [(.int .i64),(.int .i64)] [.pl (.int .i64),.pl (.int .i64)] (fun a=>kH.f k a.1 a.2.1)
noncomputable def kH.C {γ:Type}:Ctx γ:=mkC (fun k=>mkE [(113,bits_Mul64.m k),(114,kg.m k),(115,jP.m k)] []) [(73,Tryz.f73)] [(73,mkA [] [] [] [])] [] []
theorem kH.iN {γ:Type}:(kH.C (γ:=γ)).Ok:=⟨(all_cons (fun k=>by kernel_rfl) all_nil),(all_cons (by kernel_rfl) all_nil),all_nil⟩
theorem kH.ok (k:Nat):j5 Tryz.prog 73 (kH.m k).s:=okW kH.iN 0 Tryz.f73 k all_nil (fun k=>all_cons (bits_Mul64.ok k) (all_cons (kg.ok k) (all_cons (jP.ok k) (all_nil)))) (all_cons ⟨Tryz.func73,by kernel_rfl⟩ all_nil) all_nil (by kernel_rfl) (by kernel_rfl) (fun a=>by kernel_rfl)
noncomputable def kJ.m (k:Nat):Sm:=ko [.fm,(.int .i64)] [.pl (.sl 41 .sp),.pl (.int .i64),.pl (.int .i64)] (fun a=>kJ.f k a.1.f0 a.1.f1 a.1.f2 a.1.f3 a.2.1)
noncomputable def kJ.C {γ:Type}:Ctx γ:=mkC (fun k=>mkE [(46,jm.m k),(72,iT.m k),(73,kH.m k)] []) [(38,Tryz.f38)] [(38,mkA [] [] [] [])] [] []
theorem kJ.iN {γ:Type}:(kJ.C (γ:=γ)).Ok:=⟨(all_cons (fun k=>by kernel_rfl) all_nil),(all_cons (by kernel_rfl) all_nil),all_nil⟩
theorem kJ.ok (k:Nat):j5 Tryz.prog 38 (kJ.m k).s:=okW kJ.iN 0 Tryz.f38 k all_nil (fun k=>all_cons (jm.ok k) (all_cons (iT.ok k) (all_cons (kH.ok k) (all_nil)))) (all_cons ⟨Tryz.func38,by kernel_rfl⟩ all_nil) all_nil (by kernel_rfl) (by kernel_rfl) (fun a=>by kernel_rfl)
noncomputable def kT.m (k:Nat):Sm:=ko [(.int .i64),(.int .i64)] [.pl (.int .i64),.pl (.int .i64)] (fun a=>kT.f k a.1 a.2.1)
noncomputable def kT.C {γ:Type}:Ctx γ:=mkC (fun k=>mkE [] []) [(74,Tryz.f74)] [(74,mkA [] [] [] [])] [] []
theorem kT.iN {γ:Type}:(kT.C (γ:=γ)).Ok:=⟨(all_cons (fun k=>by kernel_rfl) all_nil),(all_cons (by kernel_rfl) all_nil),all_nil⟩
theorem kT.ok (k:Nat):j5 Tryz.prog 74 (kT.m k).s:=okW kT.iN 0 Tryz.f74 k all_nil (fun k=>all_nil) (all_cons ⟨Tryz.func74,by kernel_rfl⟩ all_nil) all_nil (by kernel_rfl) (by kernel_rfl) (fun a=>by kernel_rfl)
noncomputable def iG.m (k:Nat):Sm:=ko [(.sl 41 .sp),(.int .i64)] [.own 41 .sp,.pl (.int .i64)] (fun a=>iG.f k a.1 a.2.1)
noncomputable def iG.l0.p:PS:=⟨[nO,.one (.i .i64)]++nOs 4++[.one (.o 41 .sp)]++nOs 6++[.one (.s .sp),.one (.i .i64),.one (.i .i64)]++nOs 41,[]⟩
noncomputable def iG.l0.c {γ:Type} (YK:HdK γ) (K:gJ→St→Option γ)  := ((fun y1=>K .ret ((⟨nOs 4++[.one (.lo 41 .sp),.one (.li .i64 20),.one (.o 41 .sp)]++nOs 50,[]⟩:PS).mk' [.l .sp y1])),(fun y1=>K (.exit 0) ((⟨nOs 6++[.one (.o 41 .sp)]++nOs 50,[]⟩:PS).mk' [.l .sp y1])))
noncomputable def iG.l0.g {γ:Type} (YK:HdK γ) (k:Nat) (K:gJ→St→Option γ):List Lf→Option γ
  | [.i c1,.l .sp v2,.l .sp c3,.i c4,.i v5]=>let q:=iG.l0.c YK K;iG.l0 q.1 q.2 c1 c3 c4 k v2 v5
  | _=>none
noncomputable def iG.C {γ:Type}:Ctx γ:=mkC (fun k=>mkE [(74,kT.m k),(75,jS.m k)] []) [(39,Tryz.f39)] [(39,mkA [49,56] [(0,[1,6,13,14,15])] [(0,[4,5,6])] [])] [⟨0,39,0,jN [(iG.l0.p,iG.l0.g)]⟩] []
theorem iG.l0.eq {γ:Type} (YK:HdK γ) (rl:Option Nat) (K:gJ→St→Option γ) (c1:Int) (c3:List P.S41) (c4:Int):∀ k:Nat,(fun (v2:List P.S41) (v5:Int)=>iG.C.lK 0 39 0 Tryz.f39 YK rl 0 k (iG.l0.p.mk' [.i c1,.l .sp v2,.l .sp c3,.i c4,.i v5]) K)=(fun (v2:List P.S41) (v5:Int)=>iG.l0.g YK k K [.i c1,.l .sp v2,.l .sp c3,.i c4,.i v5]):=iK (fun R k v2 v5=>iG.l0T (iG.l0.c YK K).1 (iG.l0.c YK K).2 c1 c3 c4 R k v2 v5) (by kernel_rfl) (fun k=>by kernel_rfl) (fun k=>by kernel_rfl)
theorem iG.iN {γ:Type}:(iG.C (γ:=γ)).Ok:=⟨(all_cons (fun k=>by kernel_rfl) all_nil),(all_cons (by kernel_rfl) all_nil),all_nil⟩
theorem iG.e0 {γ:Type}:jE (iG.C (γ:=γ)) ⟨0,39,0,jN [(iG.l0.p,iG.l0.g)]⟩:=iG.iN.lS Tryz.f39 [] (by kernel_rfl) (by kernel_rfl) (by kernel_rfl) (all_cons jR all_nil) (all_cons (fun YK rl k ls K v hv=>(show iG.l0.g YK k K ls=some v→_ from fun hv=>by
  unfold iG.l0.g at hv;split at hv
  · exact (congrFun (congrFun (iG.l0.eq YK rl K _ _ _ k) _) _).trans hv
  · cases hv) hv) all_nil)
theorem iG.ok (k:Nat):j5 Tryz.prog 39 (iG.m k).s:=okW iG.iN 0 Tryz.f39 k all_nil (fun k=>all_cons (kT.ok k) (all_cons (jS.ok k) (all_nil))) (all_cons ⟨Tryz.func39,by kernel_rfl⟩ all_nil) (all_cons iG.e0 all_nil) (by kernel_rfl) (by kernel_rfl) (fun a=>by kernel_rfl)
noncomputable def je.m (k:Nat):Sm:=ko [.fm,(.int .i64)] [.own 41 .sp,.pl (.int .i64)] (fun a=>je.f k a.1.f0 a.1.f1 a.1.f2 a.1.f3 a.2.1)
noncomputable def je.C {γ:Type}:Ctx γ:=mkC (fun k=>mkE [(37,jD.m k),(38,kJ.m k),(39,iG.m k)] []) [(11,Tryz.f11)] [(11,mkA [27] [] [] [])] [] []
theorem je.iN {γ:Type}:(je.C (γ:=γ)).Ok:=⟨(all_cons (fun k=>by kernel_rfl) all_nil),(all_cons (by kernel_rfl) all_nil),all_nil⟩
theorem je.ok (k:Nat):j5 Tryz.prog 11 (je.m k).s:=okW je.iN 0 Tryz.f11 k all_nil (fun k=>all_cons (jD.ok k) (all_cons (kJ.ok k) (all_cons (iG.ok k) (all_nil)))) (all_cons ⟨Tryz.func11,by kernel_rfl⟩ all_nil) all_nil (by kernel_rfl) (by kernel_rfl) (fun a=>by kernel_rfl)
noncomputable def kr.m (k:Nat):Sm:=ko [(.sl 41 .sp)] [.pl .bool] (fun a=>kr.f k a.1)
noncomputable def kr.C {γ:Type}:Ctx γ:=mkC (fun k=>mkE [] []) [(158,Tryz.f158)] [(158,mkA [] [] [] [])] [] []
theorem kr.iN {γ:Type}:(kr.C (γ:=γ)).Ok:=⟨(all_cons (fun k=>by kernel_rfl) all_nil),(all_cons (by kernel_rfl) all_nil),all_nil⟩
theorem kr.ok (k:Nat):j5 Tryz.prog 158 (kr.m k).s:=okW kr.iN 0 Tryz.f158 k all_nil (fun k=>all_nil) (all_cons ⟨Tryz.func158,by kernel_rfl⟩ all_nil) all_nil (by kernel_rfl) (by kernel_rfl) (fun a=>by kernel_rfl)
noncomputable def iJ.m (k:Nat):Sm:=ko [.fm] [.pl .bool] (fun a=>iJ.f k a.1.f0 a.1.f1 a.1.f2 a.1.f3)
noncomputable def iJ.l0.p:PS:=⟨[.one (.s (.sl 41 .sp)),.one (.fn 158 [])]++nOs 5++[.one (.i .i64),.one (.i .i64)]++nOs 10,[.box 25 [.i .i64,.i .i64,.s (.sl 41 .sp),.s .gr]]⟩
noncomputable def iJ.l0.c {γ:Type} (YK:HdK γ) (K:gJ→St→Option γ) (c4:Int) (c5:Int) (c6:List (List P.S41)) (c7:List P.S43):=((fun y1=>K .ret ((⟨nOs 4++[.one (.i .i64)]++nOs 14,[.box 25 [.i .i64,.i .i64,.s (.sl 41 .sp),.s .gr]]⟩:PS).mk' [.i y1,.i c4,.i c5,.l (.sl 41 .sp) c6,.l .gr c7])),(K (.exit 0) ((⟨nOs 19,[.box 25 [.i .i64,.i .i64,.s (.sl 41 .sp),.s .gr]]⟩:PS).mk' [.i c4,.i c5,.l (.sl 41 .sp) c6,.l .gr c7])))
noncomputable def iJ.l0.g {γ:Type} (YK:HdK γ) (k:Nat) (K:gJ→St→Option γ):List Lf→Option γ
  | [.l (.sl 41 .sp) c1,.i c2,.i v3,.i c4,.i c5,.l (.sl 41 .sp) c6,.l .gr c7]=>let q:=iJ.l0.c YK K c4 c5 c6 c7;iJ.l0 q.1 q.2 c1 c2 k v3
  | _=>none
noncomputable def iJ.C {γ:Type}:Ctx γ:=mkC (fun k=>mkE [(158,kr.m k)] []) [(132,Tryz.f132),(157,Tryz.f157),(170,Tryz.f170)] [(132,mkA [] [] [] []),(157,mkA [] [] [] []),(170,mkA [] [(0,[0,1,7,8])] [(0,[4])] [])] [⟨0,170,0,jN [(iJ.l0.p,iJ.l0.g)]⟩] []
theorem iJ.l0.eq {γ:Type} (YK:HdK γ) (rl:Option Nat) (K:gJ→St→Option γ) (c1:List (List P.S41)) (c2:Int) (c4:Int) (c5:Int) (c6:List (List P.S41)) (c7:List P.S43):∀ k:Nat,(fun (v3:Int)=>iJ.C.lK 0 170 0 Tryz.f170 YK rl 1 k (iJ.l0.p.mk' [.l (.sl 41 .sp) c1,.i c2,.i v3,.i c4,.i c5,.l (.sl 41 .sp) c6,.l .gr c7]) K)=(fun (v3:Int)=>iJ.l0.g YK k K [.l (.sl 41 .sp) c1,.i c2,.i v3,.i c4,.i c5,.l (.sl 41 .sp) c6,.l .gr c7]):=iK (fun R k v3=>iJ.l0T (iJ.l0.c YK K c4 c5 c6 c7).1 (iJ.l0.c YK K c4 c5 c6 c7).2 c1 c2 R k v3) (by kernel_rfl) (fun k=>by kernel_rfl) (fun k=>by kernel_rfl)
theorem iJ.iN {γ:Type}:(iJ.C (γ:=γ)).Ok:=⟨(all_cons (fun k=>by kernel_rfl) (all_cons (fun k=>by kernel_rfl) (all_cons (fun k=>by kernel_rfl) all_nil))),(all_cons (by kernel_rfl) (all_cons (by kernel_rfl) (all_cons (by kernel_rfl) all_nil))),all_nil⟩
theorem iJ.e0 {γ:Type}:jE (iJ.C (γ:=γ)) ⟨0,170,0,jN [(iJ.l0.p,iJ.l0.g)]⟩:=iJ.iN.lS Tryz.f170 [] (by kernel_rfl) (by kernel_rfl) (by kernel_rfl) (all_cons jR all_nil) (all_cons (fun YK rl k ls K v hv=>(show iJ.l0.g YK k K ls=some v→_ from fun hv=>by
  unfold iJ.l0.g at hv;split at hv
  · exact (congrFun (iJ.l0.eq YK rl K _ _ _ _ _ _ k) _).trans hv
  · cases hv) hv) all_nil)
theorem iJ.ok (k:Nat):j5 Tryz.prog 132 (iJ.m k).s:=okW iJ.iN 2 Tryz.f132 k all_nil (fun k=>all_cons (kr.ok k) (all_nil)) (all_cons ⟨Tryz.func132,by kernel_rfl⟩ (all_cons ⟨Tryz.func157,by kernel_rfl⟩ (all_cons ⟨Tryz.func170,by kernel_rfl⟩ all_nil))) (all_cons iJ.e0 all_nil) (by kernel_rfl) (by kernel_rfl) (fun a=>by kernel_rfl)
end Go.Proofs.YtongeknogcboiaaGreat.R
namespace Go.Proofs.YtongeknogcboiaaGreat.R
open M Go.RowKit Go.Proofs.YtongeknogcboiaaGreatW.gq Go.Proofs.YtongeknogcboiaaGreatW.iE Go.Proofs.YtongeknogcboiaaGreatW.iR
set_option linter.unusedVariables false
noncomputable def kY.m (k:Nat):Sm:=ko [.fm,(.int .i64)] [.pl .bool] (fun a=>kY.f k a.1.f0 a.1.f1 a.1.f2 a.1.f3 a.2.1)
noncomputable def kY.C {γ:Type}:Ctx γ:=mkC (fun k=>mkE [(38,kJ.m k)] []) [(133,Tryz.f133)] [(133,mkA [] [] [] [])] [] []
theorem kY.iN {γ:Type}:(kY.C (γ:=γ)).Ok:=⟨(all_cons (fun k=>by kernel_rfl) all_nil),(all_cons (by kernel_rfl) all_nil),all_nil⟩
theorem kY.ok (k:Nat):j5 Tryz.prog 133 (kY.m k).s:=okW kY.iN 0 Tryz.f133 k all_nil (fun k=>all_cons (kJ.ok k) (all_nil)) (all_cons ⟨Tryz.func133,by kernel_rfl⟩ all_nil) all_nil (by kernel_rfl) (by kernel_rfl) (fun a=>by kernel_rfl)
noncomputable def gF.m (k:Nat):Sm:=ko [.fm,(.int .i64),(.int .i64)] [.pl (.int .i64),.pl .bool] (fun a=>gF.f k a.1.f0 a.1.f1 a.1.f2 a.1.f3 a.2.1 a.2.2.1)
noncomputable def gF.l1.p:PS:=⟨[nO,nO,.one (.i .i64),.one (.bp 0 0)]++nOs 4++[.one (.i .i64)]++nOs 54,[.box 25 [.i .i64,.i .i64,.s (.sl 41 .sp),.s .gr]]⟩
noncomputable def gF.l1.c {γ:Type} (YK:HdK γ) (K:gJ→St→Option γ) (c3:Int) (c4:Int) (c5:List (List P.S41)) (c6:List P.S43):=((fun y1=>K .ret ((⟨nOs 6++[.one (.i .i64),.one (.lb true)]++nOs 55,[.box 25 [.i .i64,.i .i64,.s (.sl 41 .sp),.s .gr]]⟩:PS).mk' [.i y1,.i c3,.i c4,.l (.sl 41 .sp) c5,.l .gr c6])),(K (.exit 0) ((⟨nOs 63,[.box 25 [.i .i64,.i .i64,.s (.sl 41 .sp),.s .gr]]⟩:PS).mk' [.i c3,.i c4,.l (.sl 41 .sp) c5,.l .gr c6])))
noncomputable def gF.l1.g {γ:Type} (YK:HdK γ) (k:Nat) (K:gJ→St→Option γ):List Lf→Option γ
  | [.i c1,.i v2,.i c3,.i c4,.l (.sl 41 .sp) c5,.l .gr c6]=>let q:=gF.l1.c YK K c3 c4 c5 c6;gF.l1 q.1 q.2 c1 c6 k v2
  | _=>none
noncomputable def gF.l0.p:PS:=⟨[nO,nO,.one (.i .i64),.one (.bp 0 0)]++nOs 4++[.one (.i .i64)]++nOs 54,[.box 25 [.i .i64,.i .i64,.s (.sl 41 .sp),.s .gr]]⟩
noncomputable def gF.l0.c {γ:Type} (YK:HdK γ) (K:gJ→St→Option γ)  := ((fun y1 y2 y3 y4 y5=>K .ret ((⟨nOs 6++[.one (.i .i64),.one (.lb true)]++nOs 55,[.box 25 [.i .i64,.i .i64,.s (.sl 41 .sp),.s .gr]]⟩:PS).mk' [.i y1,.i y2,.i y3,.l (.sl 41 .sp) y4,.l .gr y5])),(fun y1 y2 y3 y4=>K .ret ((⟨nOs 6++[.one (.li .i64 0),.one (.lb false)]++nOs 55,[.box 25 [.i .i64,.i .i64,.s (.sl 41 .sp),.s .gr]]⟩:PS).mk' [.i y1,.i y2,.l (.sl 41 .sp) y3,.l .gr y4])))
noncomputable def gF.l0.g {γ:Type} (YK:HdK γ) (k:Nat) (K:gJ→St→Option γ):List Lf→Option γ
  | [.i v1,.i v2,.i v3,.i v4,.l (.sl 41 .sp) v5,.l .gr v6]=>let q:=gF.l0.c YK K;gF.l0 q.1 q.2 k v1 v2 v3 v4 v5 v6
  | _=>none
noncomputable def gF.l2.p:PS:=⟨[nO,nO,.one (.i .i64),.one (.bp 0 0)]++nOs 6++[.one (.i .i64)]++nOs 52,[.box 25 [.i .i64,.i .i64,.s (.sl 41 .sp),.s .gr]]⟩
noncomputable def gF.l2.c {γ:Type} (YK:HdK γ) (K:gJ→St→Option γ) (c3:Int) (c4:Int) (c5:List (List P.S41)) (c6:List P.S43):=((fun y1=>K .ret ((⟨nOs 6++[.one (.i .i64),.one (.lb true)]++nOs 55,[.box 25 [.i .i64,.i .i64,.s (.sl 41 .sp),.s .gr]]⟩:PS).mk' [.i y1,.i c3,.i c4,.l (.sl 41 .sp) c5,.l .gr c6])),(K (.exit 2) ((⟨nOs 63,[.box 25 [.i .i64,.i .i64,.s (.sl 41 .sp),.s .gr]]⟩:PS).mk' [.i c3,.i c4,.l (.sl 41 .sp) c5,.l .gr c6])))
noncomputable def gF.l2.g {γ:Type} (YK:HdK γ) (k:Nat) (K:gJ→St→Option γ):List Lf→Option γ
  | [.i c1,.i v2,.i c3,.i c4,.l (.sl 41 .sp) c5,.l .gr c6]=>let q:=gF.l2.c YK K c3 c4 c5 c6;gF.l2 q.1 q.2 c1 c3 c4 c5 c6 k v2
  | _=>none
noncomputable def gF.C {γ:Type}:Ctx γ:=mkC (fun k=>mkE [(37,jD.m k),(72,iT.m k),(132,iJ.m k),(133,kY.m k)] []) [(99,Tryz.f99)] [(99,mkA [] [(0,[2,3,8]),(2,[2,3,10]),(1000002,[2,3,8])] [(0,[6,7]),(2,[6,7]),(1000002,[1,2,3,6,7])] [])] [⟨0,99,0,jN [(gF.l1.p,gF.l1.g)]⟩,⟨0,99,1000002,jN [(gF.l0.p,gF.l0.g)]⟩,⟨0,99,2,jN [(gF.l2.p,gF.l2.g)]⟩] []
theorem gF.l1.eq {γ:Type} (YK:HdK γ) (rl:Option Nat) (K:gJ→St→Option γ) (c1:Int) (c3:Int) (c4:Int) (c5:List (List P.S41)) (c6:List P.S43):∀ k:Nat,(fun (v2:Int)=>gF.C.lK 0 99 0 Tryz.f99 YK rl 1 k (gF.l1.p.mk' [.i c1,.i v2,.i c3,.i c4,.l (.sl 41 .sp) c5,.l .gr c6]) K)=(fun (v2:Int)=>gF.l1.g YK k K [.i c1,.i v2,.i c3,.i c4,.l (.sl 41 .sp) c5,.l .gr c6]):=iK (fun R k v2=>gF.l1T (gF.l1.c YK K c3 c4 c5 c6).1 (gF.l1.c YK K c3 c4 c5 c6).2 c1 c6 R k v2) (by kernel_rfl) (fun k=>by kernel_rfl) (fun k=>by kernel_rfl)
theorem gF.l0.eq {γ:Type} (YK:HdK γ) (rl:Option Nat) (K:gJ→St→Option γ) (k:Nat) (v1:Int) (v2:Int) (v3:Int) (v4:Int) (v5:List (List P.S41)) (v6:List P.S43):gF.C.lK 0 99 1000002 Tryz.f99 YK rl 1 k (gF.l0.p.mk' [.i v1,.i v2,.i v3,.i v4,.l (.sl 41 .sp) v5,.l .gr v6]) K=gF.l0.g YK k K [.i v1,.i v2,.i v3,.i v4,.l (.sl 41 .sp) v5,.l .gr v6]:=by kernel_rfl
theorem gF.l2.eq {γ:Type} (YK:HdK γ) (rl:Option Nat) (K:gJ→St→Option γ) (c1:Int) (c3:Int) (c4:Int) (c5:List (List P.S41)) (c6:List P.S43):∀ k:Nat,(fun (v2:Int)=>gF.C.lK 0 99 2 Tryz.f99 YK rl 1 k (gF.l2.p.mk' [.i c1,.i v2,.i c3,.i c4,.l (.sl 41 .sp) c5,.l .gr c6]) K)=(fun (v2:Int)=>gF.l2.g YK k K [.i c1,.i v2,.i c3,.i c4,.l (.sl 41 .sp) c5,.l .gr c6]):=iK (fun R k v2=>gF.l2T (gF.l2.c YK K c3 c4 c5 c6).1 (gF.l2.c YK K c3 c4 c5 c6).2 c1 c3 c4 c5 c6 R k v2) (by kernel_rfl) (fun k=>by kernel_rfl) (fun k=>by kernel_rfl)
theorem gF.iN {γ:Type}:(gF.C (γ:=γ)).Ok:=⟨(all_cons (fun k=>by kernel_rfl) all_nil),(all_cons (by kernel_rfl) all_nil),all_nil⟩
theorem gF.e0 {γ:Type}:jE (gF.C (γ:=γ)) ⟨0,99,0,jN [(gF.l1.p,gF.l1.g)]⟩:=gF.iN.lS Tryz.f99 [] (by kernel_rfl) (by kernel_rfl) (by kernel_rfl) (all_cons jR (all_cons jR (all_cons jR all_nil))) (all_cons (fun YK rl k ls K v hv=>(show gF.l1.g YK k K ls=some v→_ from fun hv=>by
  unfold gF.l1.g at hv;split at hv
  · exact (congrFun (gF.l1.eq YK rl K _ _ _ _ _ k) _).trans hv
  · cases hv) hv) all_nil)
theorem gF.e1 {γ:Type}:jE (gF.C (γ:=γ)) ⟨0,99,1000002,jN [(gF.l0.p,gF.l0.g)]⟩:=gF.iN.lS Tryz.f99 [0] (by kernel_rfl) (by kernel_rfl) (by kernel_rfl) (all_cons (fun _=>gF.e0) (all_cons jR (all_cons jR all_nil))) (all_cons (fun YK rl k ls K v hv=>(show gF.l0.g YK k K ls=some v→_ from fun hv=>by
  unfold gF.l0.g at hv;split at hv
  · exact (gF.l0.eq YK rl K k _ _ _ _ _ _).trans hv
  · cases hv) hv) all_nil)
theorem gF.e2 {γ:Type}:jE (gF.C (γ:=γ)) ⟨0,99,2,jN [(gF.l2.p,gF.l2.g)]⟩:=gF.iN.lS Tryz.f99 [] (by kernel_rfl) (by kernel_rfl) (by kernel_rfl) (all_cons jR (all_cons jR (all_cons jR all_nil))) (all_cons (fun YK rl k ls K v hv=>(show gF.l2.g YK k K ls=some v→_ from fun hv=>by
  unfold gF.l2.g at hv;split at hv
  · exact (congrFun (gF.l2.eq YK rl K _ _ _ _ _ k) _).trans hv
  · cases hv) hv) all_nil)
theorem gF.ok (k:Nat):j5 Tryz.prog 99 (gF.m k).s:=okW gF.iN 0 Tryz.f99 k all_nil (fun k=>all_cons (jD.ok k) (all_cons (iT.ok k) (all_cons (iJ.ok k) (all_cons (kY.ok k) (all_nil))))) (all_cons ⟨Tryz.func99,by kernel_rfl⟩ all_nil) (all_cons gF.e0 (all_cons gF.e1 (all_cons gF.e2 all_nil))) (by kernel_rfl) (by kernel_rfl) (fun a=>by kernel_rfl)
noncomputable def iW.m (k:Nat):Sm:=ko [.fm,(.int .i64)] [.pl (.int .i64),.pl .bool] (fun a=>iW.f k a.1.f0 a.1.f1 a.1.f2 a.1.f3 a.2.1)
noncomputable def iW.C {γ:Type}:Ctx γ:=mkC (fun k=>mkE [(99,gF.m k)] []) [(60,Tryz.f60)] [(60,mkA [] [] [] [])] [] []
theorem iW.iN {γ:Type}:(iW.C (γ:=γ)).Ok:=⟨(all_cons (fun k=>by kernel_rfl) all_nil),(all_cons (by kernel_rfl) all_nil),all_nil⟩
theorem iW.ok (k:Nat):j5 Tryz.prog 60 (iW.m k).s:=okW iW.iN 0 Tryz.f60 k all_nil (fun k=>all_cons (gF.ok k) (all_nil)) (all_cons ⟨Tryz.func60,by kernel_rfl⟩ all_nil) all_nil (by kernel_rfl) (by kernel_rfl) (fun a=>by kernel_rfl)
noncomputable def jc.m (k:Nat):Sm:=ko [.fm,(.int .i64)] [.pl (.int .i64),.pl .bool] (fun a=>jc.f k a.1.f0 a.1.f1 a.1.f2 a.1.f3 a.2.1)
noncomputable def jc.C {γ:Type}:Ctx γ:=mkC (fun k=>mkE [(99,gF.m k)] []) [(61,Tryz.f61)] [(61,mkA [] [] [] [])] [] []
theorem jc.iN {γ:Type}:(jc.C (γ:=γ)).Ok:=⟨(all_cons (fun k=>by kernel_rfl) all_nil),(all_cons (by kernel_rfl) all_nil),all_nil⟩
theorem jc.ok (k:Nat):j5 Tryz.prog 61 (jc.m k).s:=okW jc.iN 0 Tryz.f61 k all_nil (fun k=>all_cons (gF.ok k) (all_nil)) (all_cons ⟨Tryz.func61,by kernel_rfl⟩ all_nil) all_nil (by kernel_rfl) (by kernel_rfl) (fun a=>by kernel_rfl)
noncomputable def jd.m (k:Nat):Sm:=ko [(.sl 41 .sp),(.sl 41 .sp)] [.pl .bool] (fun a=>jd.f k a.1 a.2.1)
noncomputable def jd.C {γ:Type}:Ctx γ:=mkC (fun k=>mkE [] []) [(109,Tryz.f109)] [(109,mkA [] [] [] [])] [] []
theorem jd.iN {γ:Type}:(jd.C (γ:=γ)).Ok:=⟨(all_cons (fun k=>by kernel_rfl) all_nil),(all_cons (by kernel_rfl) all_nil),all_nil⟩
theorem jd.ok (k:Nat):j5 Tryz.prog 109 (jd.m k).s:=okW jd.iN 0 Tryz.f109 k all_nil (fun k=>all_nil) (all_cons ⟨Tryz.func109,by kernel_rfl⟩ all_nil) all_nil (by kernel_rfl) (by kernel_rfl) (fun a=>by kernel_rfl)
noncomputable def ku.m (k:Nat):Sm:=ko [.fm,(.int .i64)] [.pl .bool] (fun a=>ku.f k a.1.f0 a.1.f1 a.1.f2 a.1.f3 a.2.1)
noncomputable def ku.C {γ:Type}:Ctx γ:=mkC (fun k=>mkE [(11,je.m k),(60,iW.m k),(61,jc.m k),(109,jd.m k)] []) [(71,Tryz.f71)] [(71,mkA [] [] [] [])] [] []
theorem ku.iN {γ:Type}:(ku.C (γ:=γ)).Ok:=⟨(all_cons (fun k=>by kernel_rfl) all_nil),(all_cons (by kernel_rfl) all_nil),all_nil⟩
theorem ku.ok (k:Nat):j5 Tryz.prog 71 (ku.m k).s:=okW ku.iN 0 Tryz.f71 k all_nil (fun k=>all_cons (je.ok k) (all_cons (iW.ok k) (all_cons (jc.ok k) (all_cons (jd.ok k) (all_nil))))) (all_cons ⟨Tryz.func71,by kernel_rfl⟩ all_nil) all_nil (by kernel_rfl) (by kernel_rfl) (fun a=>by kernel_rfl)
noncomputable def iq.m (k:Nat):Sm:=ko [.fm] [.pl (.int .i64)] (fun a=>iq.f k a.1.f0 a.1.f1 a.1.f2 a.1.f3)
noncomputable def iq.l1.p:PS:=⟨[nO,.one (.bp 0 0)]++nOs 27++[.one (.s .gr),.one (.i .i64),.one (.i .i64)]++nOs 9,[.box 25 [.i .i64,.i .i64,.s (.sl 41 .sp),.s .gr]]⟩
noncomputable def iq.l1.c {γ:Type} (YK:HdK γ) (K:gJ→St→Option γ) (c4:Int) (c5:Int) (c6:List (List P.S41)) (c7:List P.S43):=((K .ret ((⟨[nO,nO,.one (.li .i64 50)]++nOs 38,[.box 25 [.i .i64,.i .i64,.s (.sl 41 .sp),.s .gr]]⟩:PS).mk' [.i c4,.i c5,.l (.sl 41 .sp) c6,.l .gr c7])),(K (.exit 0) ((⟨nOs 41,[.box 25 [.i .i64,.i .i64,.s (.sl 41 .sp),.s .gr]]⟩:PS).mk' [.i c4,.i c5,.l (.sl 41 .sp) c6,.l .gr c7])))
noncomputable def iq.l1.g {γ:Type} (YK:HdK γ) (k:Nat) (K:gJ→St→Option γ):List Lf→Option γ
  | [.l .gr c1,.i c2,.i v3,.i c4,.i c5,.l (.sl 41 .sp) c6,.l .gr c7]=>let q:=iq.l1.c YK K c4 c5 c6 c7;iq.l1 q.1 q.2 c1 c2 c4 c5 c6 c7 k v3
  | _=>none
noncomputable def iq.l0.p:PS:=⟨[nO,.one (.bp 0 0)]++nOs 39,[.box 25 [.i .i64,.i .i64,.s (.sl 41 .sp),.s .gr]]⟩
noncomputable def iq.l0.c {γ:Type} (YK:HdK γ) (K:gJ→St→Option γ)  := ((fun y1 y2 y3 y4=>K .ret ((⟨[nO,nO,.one (.li .i64 50)]++nOs 38,[.box 25 [.i .i64,.i .i64,.s (.sl 41 .sp),.s .gr]]⟩:PS).mk' [.i y1,.i y2,.l (.sl 41 .sp) y3,.l .gr y4])),(fun y1 y2 y3 y4=>K .ret ((⟨[nO,nO,.one (.li .i64 0)]++nOs 38,[.box 25 [.i .i64,.i .i64,.s (.sl 41 .sp),.s .gr]]⟩:PS).mk' [.i y1,.i y2,.l (.sl 41 .sp) y3,.l .gr y4])))
noncomputable def iq.l0.g {γ:Type} (YK:HdK γ) (k:Nat) (K:gJ→St→Option γ):List Lf→Option γ
  | [.i v1,.i v2,.l (.sl 41 .sp) v3,.l .gr v4]=>let q:=iq.l0.c YK K;iq.l0 q.1 q.2 k v1 v2 v3 v4
  | _=>none
noncomputable def iq.C {γ:Type}:Ctx γ:=mkC (fun k=>mkE [(68,iA.m k),(69,gy.m k),(70,gV.m k),(71,ku.m k)] []) [(35,Tryz.f35)] [(35,mkA [] [(0,[1,29,30,31]),(1000010,[1])] [(0,[2]),(1000010,[2])] [])] [⟨0,35,0,jN [(iq.l1.p,iq.l1.g)]⟩,⟨0,35,1000010,jN [(iq.l0.p,iq.l0.g)]⟩] []
theorem iq.l1.eq {γ:Type} (YK:HdK γ) (rl:Option Nat) (K:gJ→St→Option γ) (c1:List P.S43) (c2:Int) (c4:Int) (c5:Int) (c6:List (List P.S41)) (c7:List P.S43):∀ k:Nat,(fun (v3:Int)=>iq.C.lK 0 35 0 Tryz.f35 YK rl 1 k (iq.l1.p.mk' [.l .gr c1,.i c2,.i v3,.i c4,.i c5,.l (.sl 41 .sp) c6,.l .gr c7]) K)=(fun (v3:Int)=>iq.l1.g YK k K [.l .gr c1,.i c2,.i v3,.i c4,.i c5,.l (.sl 41 .sp) c6,.l .gr c7]):=iK (fun R k v3=>iq.l1T (iq.l1.c YK K c4 c5 c6 c7).1 (iq.l1.c YK K c4 c5 c6 c7).2 c1 c2 c4 c5 c6 c7 R k v3) (by kernel_rfl) (fun k=>by kernel_rfl) (fun k=>by kernel_rfl)
theorem iq.l0.eq {γ:Type} (YK:HdK γ) (rl:Option Nat) (K:gJ→St→Option γ) (k:Nat) (v1:Int) (v2:Int) (v3:List (List P.S41)) (v4:List P.S43):iq.C.lK 0 35 1000010 Tryz.f35 YK rl 1 k (iq.l0.p.mk' [.i v1,.i v2,.l (.sl 41 .sp) v3,.l .gr v4]) K=iq.l0.g YK k K [.i v1,.i v2,.l (.sl 41 .sp) v3,.l .gr v4]:=by kernel_rfl
theorem iq.iN {γ:Type}:(iq.C (γ:=γ)).Ok:=⟨(all_cons (fun k=>by kernel_rfl) all_nil),(all_cons (by kernel_rfl) all_nil),all_nil⟩
theorem iq.e0 {γ:Type}:jE (iq.C (γ:=γ)) ⟨0,35,0,jN [(iq.l1.p,iq.l1.g)]⟩:=iq.iN.lS Tryz.f35 [] (by kernel_rfl) (by kernel_rfl) (by kernel_rfl) (all_cons jR (all_cons jR all_nil)) (all_cons (fun YK rl k ls K v hv=>(show iq.l1.g YK k K ls=some v→_ from fun hv=>by
  unfold iq.l1.g at hv;split at hv
  · exact (congrFun (iq.l1.eq YK rl K _ _ _ _ _ _ k) _).trans hv
  · cases hv) hv) all_nil)
theorem iq.e1 {γ:Type}:jE (iq.C (γ:=γ)) ⟨0,35,1000010,jN [(iq.l0.p,iq.l0.g)]⟩:=iq.iN.lS Tryz.f35 [0] (by kernel_rfl) (by kernel_rfl) (by kernel_rfl) (all_cons (fun _=>iq.e0) (all_cons jR all_nil)) (all_cons (fun YK rl k ls K v hv=>(show iq.l0.g YK k K ls=some v→_ from fun hv=>by
  unfold iq.l0.g at hv;split at hv
  · exact (iq.l0.eq YK rl K k _ _ _ _).trans hv
  · cases hv) hv) all_nil)
theorem iq.ok (k:Nat):j5 Tryz.prog 35 (iq.m k).s:=okW iq.iN 0 Tryz.f35 k all_nil (fun k=>all_cons (iA.ok k) (all_cons (gy.ok k) (all_cons (gV.ok k) (all_cons (ku.ok k) (all_nil))))) (all_cons ⟨Tryz.func35,by kernel_rfl⟩ all_nil) (all_cons iq.e0 (all_cons iq.e1 all_nil)) (by kernel_rfl) (by kernel_rfl) (fun a=>by kernel_rfl)
noncomputable def ji.m (k:Nat):Sm:=ko [.fm] [.pl .bool] (fun a=>ji.f k a.1.f0 a.1.f1 a.1.f2 a.1.f3)
noncomputable def ji.C {γ:Type}:Ctx γ:=mkC (fun k=>mkE [(34,jh.m k),(35,iq.m k)] []) [(9,Tryz.f9)] [(9,mkA [] [] [] [])] [] []
theorem ji.iN {γ:Type}:(ji.C (γ:=γ)).Ok:=⟨(all_cons (fun k=>by kernel_rfl) all_nil),(all_cons (by kernel_rfl) all_nil),all_nil⟩
theorem ji.ok (k:Nat):j5 Tryz.prog 9 (ji.m k).s:=okW ji.iN 0 Tryz.f9 k all_nil (fun k=>all_cons (jh.ok k) (all_cons (iq.ok k) (all_nil))) (all_cons ⟨Tryz.func9,by kernel_rfl⟩ all_nil) all_nil (by kernel_rfl) (by kernel_rfl) (fun a=>by kernel_rfl)
noncomputable def iO.m (k:Nat):Sm:=ko [(.sl 41 .sp),.bool] [.pl (.int .i64)] (fun a=>iO.f k a.1 a.2.1)
noncomputable def iO.C {γ:Type}:Ctx γ:=mkC (fun k=>mkE [] []) [(147,Tryz.f147)] [(147,mkA [] [] [] [])] [] []
theorem iO.iN {γ:Type}:(iO.C (γ:=γ)).Ok:=⟨(all_cons (fun k=>by kernel_rfl) all_nil),(all_cons (by kernel_rfl) all_nil),all_nil⟩
theorem iO.ok (k:Nat):j5 Tryz.prog 147 (iO.m k).s:=okW iO.iN 0 Tryz.f147 k all_nil (fun k=>all_nil) (all_cons ⟨Tryz.func147,by kernel_rfl⟩ all_nil) all_nil (by kernel_rfl) (by kernel_rfl) (fun a=>by kernel_rfl)
noncomputable def jo.m (k:Nat):Sm:=ko [(.sl 41 .sp),.bool,(.int .i64)] [.pl (.sl 41 .sp),.pl .bool] (fun a=>jo.f k a.1 a.2.1 a.2.2.1)
noncomputable def jo.C {γ:Type}:Ctx γ:=mkC (fun k=>mkE [] []) [(149,Tryz.f149)] [(149,mkA [42,43] [] [] [])] [] []
theorem jo.iN {γ:Type}:(jo.C (γ:=γ)).Ok:=⟨(all_cons (fun k=>by kernel_rfl) all_nil),(all_cons (by kernel_rfl) all_nil),all_nil⟩
theorem jo.ok (k:Nat):j5 Tryz.prog 149 (jo.m k).s:=okW jo.iN 0 Tryz.f149 k all_nil (fun k=>all_nil) (all_cons ⟨Tryz.func149,by kernel_rfl⟩ all_nil) all_nil (by kernel_rfl) (by kernel_rfl) (fun a=>by kernel_rfl)
noncomputable def j4.m (k:Nat):Sm:=ko [.bool,.bool] [.pl .bool] (fun a=>j4.f k a.1 a.2.1)
noncomputable def j4.C {γ:Type}:Ctx γ:=mkC (fun k=>mkE [] []) [(80,Tryz.f80)] [(80,mkA [] [] [] [])] [] []
theorem j4.iN {γ:Type}:(j4.C (γ:=γ)).Ok:=⟨(all_cons (fun k=>by kernel_rfl) all_nil),(all_cons (by kernel_rfl) all_nil),all_nil⟩
theorem j4.ok (k:Nat):j5 Tryz.prog 80 (j4.m k).s:=okW j4.iN 0 Tryz.f80 k all_nil (fun k=>all_nil) (all_cons ⟨Tryz.func80,by kernel_rfl⟩ all_nil) all_nil (by kernel_rfl) (by kernel_rfl) (fun a=>by kernel_rfl)
noncomputable def iB.m (k:Nat):Sm:=ko [(.sl 41 .sp),(.sl 41 .sp)] [.own 41 .sp] (fun a=>iB.f k a.1 a.2.1)
noncomputable def iB.y0.p0:List PB:=[.box 97 [.fn 80 []],.box 28 [.o 41 .sp],.box 4 [.b],.box 3 [.i .i64],.box 28 [.s .sp],.box 28 [.s .sp],.box 163 [.fn 147 []],.lp .normal]
noncomputable def iB.y0 {γ:Type} (x:AV) (bx:List Bx) (x0:(List P.S41)→Bool→Int→(List P.S41)→(List P.S41)→Option γ):Option γ :=
  match yrd true iB.y0.p0 x bx with
  | some [.l .sp z1,.b z2,.i z3,.l .sp z4,.l .sp z5]=>(x0 z1 z2 z3 z4 z5)
  | _=>none
noncomputable def iB.y0T {γ:Type}:YdK γ:=fun K x bx=>iB.y0 x bx (fun z1 z2 z3 z4 z5=>K (lC true) (oZ iB.y0.p0 [.l .sp z1,.b z2,.i z3,.l .sp z4,.l .sp z5]).1)
theorem iB.oH {γ:Type}:wK (iB.y0T (γ:=γ)):=fun K x bx v h=>by
  unfold iB.y0T iB.y0 at h;split at h
  · rename_i hy
    obtain ⟨rfl,rfl⟩:=lH hy;exact h
  · cases h
noncomputable def iB.l0.p:PS:=⟨[.one (.yl 7),.one (.bp 4 0),.one (.bp 5 0),.one (.bp 6 0),nO,.one (.b),.one (.b)]++nOs 53,[.box 97 [.fn 80 []],.box 28 [.o 41 .sp],.box 4 [.b],.box 3 [.i .i64],.box 28 [.s .sp],.box 28 [.s .sp],.box 163 [.fn 147 []],.lp .normal]⟩
noncomputable def iB.l0.c {γ:Type} (YK:HdK γ) (K:gJ→St→Option γ)  := ((fun q0 q1 q2 q3 q4 q5 q6 q7 x0=>(YK 7).bind fun h=>h [.pt (.agg [.v (.int .i64 q0),.v (.bool q1),.v (.bool q2)])] [.box 97 [.fn 80 []],.box 28 [.ow 41 .sp q3],.box 4 [.v (.bool q4)],.box 3 [.v (.int .i64 q5)],.box 28 [.sl .sp q6],.box 28 [.sl .sp q7],.box 163 [.fn 147 []],.lp .normal] (fun x bx=>iB.y0 x bx x0)),(fun y1 y2 y3 y4 y5=>K (.exit 0) ((⟨nOs 60,[.box 97 [.fn 80 []],.box 28 [.o 41 .sp],.box 4 [.b],.box 3 [.i .i64],.box 28 [.s .sp],.box 28 [.s .sp],.box 163 [.fn 147 []],.lp .normal]⟩:PS).mk' [.l .sp y1,.b y2,.i y3,.l .sp y4,.l .sp y5])))
noncomputable def iB.l0.g {γ:Type} (YK:HdK γ) (k:Nat) (K:gJ→St→Option γ):List Lf→Option γ
  | [.b v1,.b v2,.l .sp v3,.b v4,.i v5,.l .sp v6,.l .sp v7]=>let q:=iB.l0.c YK K;iB.l0 q.1 q.2 k v1 v2 v3 v4 v5 v6 v7
  | _=>none
noncomputable def iB.C {γ:Type}:Ctx γ:=mkC (fun k=>mkE [(80,j4.m k),(147,iO.m k),(149,jo.m k)] []) [(42,Tryz.f42),(79,Tryz.f79),(118,Tryz.f118),(148,Tryz.f148)] [(42,mkA [] [] [] []),(79,mkA [36,45] [] [] []),(118,mkA [] [] [] []),(148,mkA [100014,100018] [(0,[0,1,2,3,5,6])] [(0,[])] [])] [⟨1,148,0,jN [(iB.l0.p,iB.l0.g)]⟩] [⟨1,148,7,iB.y0T⟩]
theorem iB.l0.eq {γ:Type} (YK:HdK γ) (rl:Option Nat) (K:gJ→St→Option γ)  : ∀ k:Nat,(fun (v1:Bool) (v2:Bool) (v3:List P.S41) (v4:Bool) (v5:Int) (v6:List P.S41) (v7:List P.S41)=>iB.C.lK 1 148 0 Tryz.f148 YK rl 8 k (iB.l0.p.mk' [.b v1,.b v2,.l .sp v3,.b v4,.i v5,.l .sp v6,.l .sp v7]) K)=(fun (v1:Bool) (v2:Bool) (v3:List P.S41) (v4:Bool) (v5:Int) (v6:List P.S41) (v7:List P.S41)=>iB.l0.g YK k K [.b v1,.b v2,.l .sp v3,.b v4,.i v5,.l .sp v6,.l .sp v7]):=iK (fun R k v1 v2 v3 v4 v5 v6 v7=>iB.l0T (iB.l0.c YK K).1 (iB.l0.c YK K).2 R k v1 v2 v3 v4 v5 v6 v7) (by kernel_rfl) (fun k=>by kernel_rfl) (fun k=>by kernel_rfl)
theorem iB.iN {γ:Type}:(iB.C (γ:=γ)).Ok:=⟨(all_cons (fun k=>by kernel_rfl) (all_cons (fun k=>by kernel_rfl) (all_cons (fun k=>by kernel_rfl) (all_cons (fun k=>by kernel_rfl) all_nil)))),(all_cons (by kernel_rfl) (all_cons (by kernel_rfl) (all_cons (by kernel_rfl) (all_cons (by kernel_rfl) all_nil)))),(all_cons iB.oH all_nil)⟩
theorem iB.e0 {γ:Type}:jE (iB.C (γ:=γ)) ⟨1,148,0,jN [(iB.l0.p,iB.l0.g)]⟩:=iB.iN.lS Tryz.f148 [] (by kernel_rfl) (by kernel_rfl) (by kernel_rfl) (all_cons jR all_nil) (all_cons (fun YK rl k ls K v hv=>(show iB.l0.g YK k K ls=some v→_ from fun hv=>by
  unfold iB.l0.g at hv;split at hv
  · exact (congrFun (congrFun (congrFun (congrFun (congrFun (congrFun (congrFun (iB.l0.eq YK rl K k) _) _) _) _) _) _) _).trans hv
  · cases hv) hv) all_nil)
theorem iB.ok (k:Nat):j5 Tryz.prog 42 (iB.m k).s:=okW iB.iN 3 Tryz.f42 k all_nil (fun k=>all_cons (j4.ok k) (all_cons (iO.ok k) (all_cons (jo.ok k) (all_nil)))) (all_cons ⟨Tryz.func42,by kernel_rfl⟩ (all_cons ⟨Tryz.func79,by kernel_rfl⟩ (all_cons ⟨Tryz.func118,by kernel_rfl⟩ (all_cons ⟨Tryz.func148,by kernel_rfl⟩ all_nil)))) (all_cons iB.e0 all_nil) (by kernel_rfl) (by kernel_rfl) (fun a=>by kernel_rfl)
noncomputable def jg.m (k:Nat):Sm:=ko [(.sl 41 .sp),(.sl 41 .sp)] [.pl .bool] (fun a=>jg.f k a.1 a.2.1)
noncomputable def jg.C {γ:Type}:Ctx γ:=mkC (fun k=>mkE [(42,iB.m k)] []) [(14,Tryz.f14)] [(14,mkA [] [] [] [])] [] []
theorem jg.iN {γ:Type}:(jg.C (γ:=γ)).Ok:=⟨(all_cons (fun k=>by kernel_rfl) all_nil),(all_cons (by kernel_rfl) all_nil),all_nil⟩
theorem jg.ok (k:Nat):j5 Tryz.prog 14 (jg.m k).s:=okW jg.iN 0 Tryz.f14 k all_nil (fun k=>all_cons (iB.ok k) (all_nil)) (all_cons ⟨Tryz.func14,by kernel_rfl⟩ all_nil) all_nil (by kernel_rfl) (by kernel_rfl) (fun a=>by kernel_rfl)
noncomputable def iV.m (k:Nat):Sm:=ko [(.sl 41 .sp)] [.pl .sp,.pl .bool] (fun a=>iV.f k a.1)
noncomputable def iV.C {γ:Type}:Ctx γ:=mkC (fun k=>mkE [] []) [(52,Tryz.f52)] [(52,mkA [] [] [] [])] [] []
theorem iV.iN {γ:Type}:(iV.C (γ:=γ)).Ok:=⟨(all_cons (fun k=>by kernel_rfl) all_nil),(all_cons (by kernel_rfl) all_nil),all_nil⟩
theorem iV.ok (k:Nat):j5 Tryz.prog 52 (iV.m k).s:=okW iV.iN 0 Tryz.f52 k all_nil (fun k=>all_nil) (all_cons ⟨Tryz.func52,by kernel_rfl⟩ all_nil) all_nil (by kernel_rfl) (by kernel_rfl) (fun a=>by kernel_rfl)
noncomputable def kZ.m (k:Nat):Sm:=ko [.sp,(.int .i64),(.int .i64)] [.pl (.int .i64)] (fun a=>kZ.f k a.1.f0 a.1.f1 a.2.1 a.2.2.1)
noncomputable def kZ.C {γ:Type}:Ctx γ:=mkC (fun k=>mkE [(46,jm.m k)] []) [(125,Tryz.f125)] [(125,mkA [] [] [] [])] [] []
theorem kZ.iN {γ:Type}:(kZ.C (γ:=γ)).Ok:=⟨(all_cons (fun k=>by kernel_rfl) all_nil),(all_cons (by kernel_rfl) all_nil),all_nil⟩
theorem kZ.ok (k:Nat):j5 Tryz.prog 125 (kZ.m k).s:=okW kZ.iN 0 Tryz.f125 k all_nil (fun k=>all_cons (jm.ok k) (all_nil)) (all_cons ⟨Tryz.func125,by kernel_rfl⟩ all_nil) all_nil (by kernel_rfl) (by kernel_rfl) (fun a=>by kernel_rfl)
noncomputable def kN.m (k:Nat):Sm:=ko [.sp,(.int .i64)] [.pl .bool] (fun a=>kN.f k a.1.f0 a.1.f1 a.2.1)
noncomputable def kN.C {γ:Type}:Ctx γ:=mkC (fun k=>mkE [] []) [(126,Tryz.f126)] [(126,mkA [] [] [] [])] [] []
theorem kN.iN {γ:Type}:(kN.C (γ:=γ)).Ok:=⟨(all_cons (fun k=>by kernel_rfl) all_nil),(all_cons (by kernel_rfl) all_nil),all_nil⟩
theorem kN.ok (k:Nat):j5 Tryz.prog 126 (kN.m k).s:=okW kN.iN 0 Tryz.f126 k all_nil (fun k=>all_nil) (all_cons ⟨Tryz.func126,by kernel_rfl⟩ all_nil) all_nil (by kernel_rfl) (by kernel_rfl) (fun a=>by kernel_rfl)
noncomputable def ni.m (k:Nat):Sm:=ko [] [.fx [.v (.int .i64 1),.fn 60 [],.fn 125 [],.fn 126 []]] (fun a=>ni.f k)
noncomputable def ni.C {γ:Type}:Ctx γ:=mkC (fun k=>mkE [] []) [(87,Tryz.f87)] [(87,mkA [] [] [] [])] [] []
theorem ni.iN {γ:Type}:(ni.C (γ:=γ)).Ok:=⟨(all_cons (fun k=>by kernel_rfl) all_nil),(all_cons (by kernel_rfl) all_nil),all_nil⟩
theorem ni.ok (k:Nat):j5 Tryz.prog 87 (ni.m k).s:=okW ni.iN 0 Tryz.f87 k all_nil (fun k=>all_nil) (all_cons ⟨Tryz.func87,by kernel_rfl⟩ all_nil) all_nil (by kernel_rfl) (by kernel_rfl) (fun a=>by kernel_rfl)
end Go.Proofs.YtongeknogcboiaaGreat.R
