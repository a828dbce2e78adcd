/- Lemmas for laws of chapter 7: what the functions that they reach compute. No condition of its own. -/
import Derived.Test.YtongeknogcboiaaGreatYL9
import Derived.Test.YtongeknogcboiaaGreatYL11
namespace Go.Proofs.YtongeknogcboiaaGreat.R
open M Go.RowKit Go.Proofs.YtongeknogcboiaaGreatW.fK Go.Proofs.YtongeknogcboiaaGreatW.gP Go.Proofs.YtongeknogcboiaaGreatW.iE
set_option linter.unusedVariables false
noncomputable def gu.m (k:Nat):Sm:=jN [.fm] [.pl (.int .i64)] (fun a=>gu.f k a.1.f0 a.1.f1 a.1.f2 a.1.f3)
noncomputable def gu.l0.p:PS:=⟨[nO,.one (.bp 0 0),nO,.one (.i .i64)]++nOs 5++[.one (.s (.sl 41 .sp)),.one (.i .i64),.one (.i .i64)]++nOs 22,[.box 25 [.i .i64,.i .i64,.s (.sl 41 .sp),.s .gr]]⟩
noncomputable def gu.l0.c {γ:Type} (YK:HdK γ) (K:gF→St→Option γ) (c5:Int) (c6:Int) (c7:List (List P.S41)) (c8:List P.S43):=(fun y1=>K (.exit 0) ((⟨[nO,.one (.bp 0 0),nO,.one (.i .i64)]++nOs 30,[.box 25 [.i .i64,.i .i64,.s (.sl 41 .sp),.s .gr]]⟩:PS).mk' [.i y1,.i c5,.i c6,.l (.sl 41 .sp) c7,.l .gr c8]))
noncomputable def gu.l0.g {γ:Type} (YK:HdK γ) (k:Nat) (K:gF→St→Option γ):List Lf→Option γ
  | [.i v1,.l (.sl 41 .sp) c2,.i c3,.i v4,.i c5,.i c6,.l (.sl 41 .sp) c7,.l .gr c8]=>gu.l0 (gu.l0.c YK K c5 c6 c7 c8) c2 c3 k v1 v4
  | _=>none
noncomputable def gu.l1.p:PS:=⟨nOs 3++[.one (.i .i64)]++nOs 17++[.one (.s .gr),.one (.i .i64),.one (.i .i64)]++nOs 10,[.box 25 [.i .i64,.i .i64,.s (.sl 41 .sp),.s .gr]]⟩
noncomputable def gu.l1.c {γ:Type} (YK:HdK γ) (K:gF→St→Option γ) (c5:Int) (c6:Int) (c7:List (List P.S41)) (c8:List P.S43):=(fun y1=>K (.exit 2) ((⟨nOs 3++[.one (.i .i64)]++nOs 30,[.box 25 [.i .i64,.i .i64,.s (.sl 41 .sp),.s .gr]]⟩:PS).mk' [.i y1,.i c5,.i c6,.l (.sl 41 .sp) c7,.l .gr c8]))
noncomputable def gu.l1.g {γ:Type} (YK:HdK γ) (k:Nat) (K:gF→St→Option γ):List Lf→Option γ
  | [.i v1,.l .gr c2,.i c3,.i v4,.i c5,.i c6,.l (.sl 41 .sp) c7,.l .gr c8]=>gu.l1 (gu.l1.c YK K c5 c6 c7 c8) c2 c3 k v1 v4
  | _=>none
noncomputable def gu.C {γ:Type}:Ctx γ:=mkC (fun k=>mkE [] []) [(68,Tryz.f68)] [(68,mkA [] [(0,[1,3,9,10,11]),(2,[3,21,22,23])] [(0,[1,3]),(2,[3])] [])] [⟨0,68,0,jB [(gu.l0.p,gu.l0.g)]⟩,⟨0,68,2,jB [(gu.l1.p,gu.l1.g)]⟩] []
theorem gu.l0.eq {γ:Type} (YK:HdK γ) (rl:Option Nat) (K:gF→St→Option γ) (c2:List (List P.S41)) (c3:Int) (c5:Int) (c6:Int) (c7:List (List P.S41)) (c8:List P.S43):∀ k:Nat,(fun (v1:Int) (v4:Int)=>gu.C.lK 0 68 0 Tryz.f68 YK rl 1 k (gu.l0.p.mk' [.i v1,.l (.sl 41 .sp) c2,.i c3,.i v4,.i c5,.i c6,.l (.sl 41 .sp) c7,.l .gr c8]) K)=(fun (v1:Int) (v4:Int)=>gu.l0.g YK k K [.i v1,.l (.sl 41 .sp) c2,.i c3,.i v4,.i c5,.i c6,.l (.sl 41 .sp) c7,.l .gr c8]):=iF (fun R k v1 v4=>gu.l0T (gu.l0.c YK K c5 c6 c7 c8) c2 c3 R k v1 v4) (by kernel_rfl) (fun k=>by kernel_rfl) (fun k=>by kernel_rfl)
theorem gu.l1.eq {γ:Type} (YK:HdK γ) (rl:Option Nat) (K:gF→St→Option γ) (c2:List P.S43) (c3:Int) (c5:Int) (c6:Int) (c7:List (List P.S41)) (c8:List P.S43):∀ k:Nat,(fun (v1:Int) (v4:Int)=>gu.C.lK 0 68 2 Tryz.f68 YK rl 1 k (gu.l1.p.mk' [.i v1,.l .gr c2,.i c3,.i v4,.i c5,.i c6,.l (.sl 41 .sp) c7,.l .gr c8]) K)=(fun (v1:Int) (v4:Int)=>gu.l1.g YK k K [.i v1,.l .gr c2,.i c3,.i v4,.i c5,.i c6,.l (.sl 41 .sp) c7,.l .gr c8]):=iF (fun R k v1 v4=>gu.l1T (gu.l1.c YK K c5 c6 c7 c8) c2 c3 R k v1 v4) (by kernel_rfl) (fun k=>by kernel_rfl) (fun k=>by kernel_rfl)
theorem gu.iM {γ:Type}:(gu.C (γ:=γ)).Ok:=⟨(all_cons (fun k=>by kernel_rfl) all_nil),(all_cons (by kernel_rfl) all_nil),all_nil⟩
theorem gu.e0 {γ:Type}:je (gu.C (γ:=γ)) ⟨0,68,0,jB [(gu.l0.p,gu.l0.g)]⟩:=gu.iM.lZ Tryz.f68 [] (by kernel_rfl) (by kernel_rfl) (by kernel_rfl) (all_cons jE (all_cons jE all_nil)) (all_cons (fun YK rl k ls K v hv=>(show gu.l0.g YK k K ls=some v→_ from fun hv=>by
  unfold gu.l0.g at hv;split at hv
  · exact (congrFun (congrFun (gu.l0.eq YK rl K _ _ _ _ _ _ k) _) _).trans hv
  · cases hv) hv) all_nil)
theorem gu.e1 {γ:Type}:je (gu.C (γ:=γ)) ⟨0,68,2,jB [(gu.l1.p,gu.l1.g)]⟩:=gu.iM.lZ Tryz.f68 [] (by kernel_rfl) (by kernel_rfl) (by kernel_rfl) (all_cons jE (all_cons jE all_nil)) (all_cons (fun YK rl k ls K v hv=>(show gu.l1.g YK k K ls=some v→_ from fun hv=>by
  unfold gu.l1.g at hv;split at hv
  · exact (congrFun (congrFun (gu.l1.eq YK rl K _ _ _ _ _ _ k) _) _).trans hv
  · cases hv) hv) all_nil)
theorem gu.ok (k:Nat):jM Tryz.prog 68 (gu.m k).s:=okW gu.iM 0 Tryz.f68 k all_nil (fun k=>all_nil) (all_cons ⟨Tryz.func68,by kernel_rfl⟩ all_nil) (all_cons gu.e0 (all_cons gu.e1 all_nil)) (by kernel_rfl) (by kernel_rfl) (fun a=>by kernel_rfl)
noncomputable def iG.m (k:Nat):Sm:=jN [.fm] [.pl .bool] (fun a=>iG.f k a.1.f0 a.1.f1 a.1.f2 a.1.f3)
noncomputable def iG.C {γ:Type}:Ctx γ:=mkC (fun k=>mkE [(68,gu.m k)] []) [(34,Tryz.f34)] [(34,mkA [] [] [] [])] [] []
theorem iG.iM {γ:Type}:(iG.C (γ:=γ)).Ok:=⟨(all_cons (fun k=>by kernel_rfl) all_nil),(all_cons (by kernel_rfl) all_nil),all_nil⟩
theorem iG.ok (k:Nat):jM Tryz.prog 34 (iG.m k).s:=okW iG.iM 0 Tryz.f34 k all_nil (fun k=>all_cons (gu.ok k) (all_nil)) (all_cons ⟨Tryz.func34,by kernel_rfl⟩ all_nil) all_nil (by kernel_rfl) (by kernel_rfl) (fun a=>by kernel_rfl)
noncomputable def iR.m (k:Nat):Sm:=jN [(.int .i64)] [.pl .bool] (fun a=>iR.f k a.1)
noncomputable def iR.C {γ:Type}:Ctx γ:=mkC (fun k=>mkE [] []) [(37,Tryz.f37)] [(37,mkA [] [] [] [])] [] []
theorem iR.iM {γ:Type}:(iR.C (γ:=γ)).Ok:=⟨(all_cons (fun k=>by kernel_rfl) all_nil),(all_cons (by kernel_rfl) all_nil),all_nil⟩
theorem iR.ok (k:Nat):jM Tryz.prog 37 (iR.m k).s:=okW iR.iM 0 Tryz.f37 k all_nil (fun k=>all_nil) (all_cons ⟨Tryz.func37,by kernel_rfl⟩ all_nil) all_nil (by kernel_rfl) (by kernel_rfl) (fun a=>by kernel_rfl)
noncomputable def iZ.m (k:Nat):Sm:=jN [(.int .i64)] [.pl .bool] (fun a=>iZ.f k a.1)
noncomputable def iZ.C {γ:Type}:Ctx γ:=mkC (fun k=>mkE [] []) [(75,Tryz.f75)] [(75,mkA [] [] [] [])] [] []
theorem iZ.iM {γ:Type}:(iZ.C (γ:=γ)).Ok:=⟨(all_cons (fun k=>by kernel_rfl) all_nil),(all_cons (by kernel_rfl) all_nil),all_nil⟩
theorem iZ.ok (k:Nat):jM Tryz.prog 75 (iZ.m k).s:=okW iZ.iM 0 Tryz.f75 k all_nil (fun k=>all_nil) (all_cons ⟨Tryz.func75,by kernel_rfl⟩ all_nil) all_nil (by kernel_rfl) (by kernel_rfl) (fun a=>by kernel_rfl)
noncomputable def gN.m (k:Nat):Sm:=jN [(.sl 41 .sp)] [.pl .bool] (fun a=>gN.f k a.1)
noncomputable def gN.l0.p:PS:=⟨[.one (.s .sp)]++nOs 4++[.one (.s .sp),.one (.i .i64),.one (.i .i64)]++nOs 38,[]⟩
noncomputable def gN.l0.c {γ:Type} (YK:HdK γ) (K:gF→St→Option γ)  := ((K .ret ((⟨[nO,nO,.one (.lb false)]++nOs 43,[]⟩:PS).mk' [])),(K (.exit 0) ((⟨nOs 46,[]⟩:PS).mk' [])))
noncomputable def gN.l0.g {γ:Type} (YK:HdK γ) (k:Nat) (K:gF→St→Option γ):List Lf→Option γ
  | [.l .sp c1,.l .sp c2,.i c3,.i v4]=>let q:=gN.l0.c YK K;gN.l0 q.1 q.2 c1 c2 c3 k v4
  | _=>none
noncomputable def gN.C {γ:Type}:Ctx γ:=mkC (fun k=>mkE [(75,iZ.m k)] []) [(108,Tryz.f108)] [(108,mkA [] [(0,[0,5,6,7])] [(0,[2])] [])] [⟨0,108,0,jB [(gN.l0.p,gN.l0.g)]⟩] []
theorem gN.l0.eq {γ:Type} (YK:HdK γ) (rl:Option Nat) (K:gF→St→Option γ) (c1:List P.S41) (c2:List P.S41) (c3:Int):∀ k:Nat,(fun (v4:Int)=>gN.C.lK 0 108 0 Tryz.f108 YK rl 0 k (gN.l0.p.mk' [.l .sp c1,.l .sp c2,.i c3,.i v4]) K)=(fun (v4:Int)=>gN.l0.g YK k K [.l .sp c1,.l .sp c2,.i c3,.i v4]):=iF (fun R k v4=>gN.l0T (gN.l0.c YK K).1 (gN.l0.c YK K).2 c1 c2 c3 R k v4) (by kernel_rfl) (fun k=>by kernel_rfl) (fun k=>by kernel_rfl)
theorem gN.iM {γ:Type}:(gN.C (γ:=γ)).Ok:=⟨(all_cons (fun k=>by kernel_rfl) all_nil),(all_cons (by kernel_rfl) all_nil),all_nil⟩
theorem gN.e0 {γ:Type}:je (gN.C (γ:=γ)) ⟨0,108,0,jB [(gN.l0.p,gN.l0.g)]⟩:=gN.iM.lZ Tryz.f108 [] (by kernel_rfl) (by kernel_rfl) (by kernel_rfl) (all_cons jE all_nil) (all_cons (fun YK rl k ls K v hv=>(show gN.l0.g YK k K ls=some v→_ from fun hv=>by
  unfold gN.l0.g at hv;split at hv
  · exact (congrFun (gN.l0.eq YK rl K _ _ _ k) _).trans hv
  · cases hv) hv) all_nil)
theorem gN.ok (k:Nat):jM Tryz.prog 108 (gN.m k).s:=okW gN.iM 0 Tryz.f108 k all_nil (fun k=>all_cons (iZ.ok k) (all_nil)) (all_cons ⟨Tryz.func108,by kernel_rfl⟩ all_nil) (all_cons gN.e0 all_nil) (by kernel_rfl) (by kernel_rfl) (fun a=>by kernel_rfl)
noncomputable def fM.m (k:Nat):Sm:=jN [.fm] [.pl .bool] (fun a=>fM.f k a.1.f0 a.1.f1 a.1.f2 a.1.f3)
noncomputable def fM.l1.p:PS:=⟨[nO,.one (.bp 0 0)]++nOs 31++[.one (.s (.sl 41 .sp)),.one (.i .i64),.one (.i .i64)]++nOs 42,[.box 25 [.i .i64,.i .i64,.s (.sl 41 .sp),.s .gr]]⟩
noncomputable def fM.l1.c {γ:Type} (YK:HdK γ) (K:gF→St→Option γ) (c4:Int) (c5:Int) (c6:List (List P.S41)) (c7:List P.S43):=((K .ret ((⟨[nO,.one (.bp 0 0),.one (.lb false)]++nOs 75,[.box 25 [.i .i64,.i .i64,.s (.sl 41 .sp),.s .gr]]⟩:PS).mk' [.i c4,.i c5,.l (.sl 41 .sp) c6,.l .gr c7])),(K (.exit 0) ((⟨[nO,.one (.bp 0 0)]++nOs 76,[.box 25 [.i .i64,.i .i64,.s (.sl 41 .sp),.s .gr]]⟩:PS).mk' [.i c4,.i c5,.l (.sl 41 .sp) c6,.l .gr c7])))
noncomputable def fM.l1.g {γ:Type} (YK:HdK γ) (k:Nat) (K:gF→St→Option γ):List Lf→Option γ
  | [.l (.sl 41 .sp) c1,.i c2,.i v3,.i c4,.i c5,.l (.sl 41 .sp) c6,.l .gr c7]=>let q:=fM.l1.c YK K c4 c5 c6 c7;fM.l1 q.1 q.2 c1 c2 k v3
  | _=>none
noncomputable def fM.l2.p:PS:=⟨[nO,.one (.bp 0 0)]++nOs 42++[.one (.s .gr),.one (.i .i64),.one (.i .i64)]++nOs 31,[.box 25 [.i .i64,.i .i64,.s (.sl 41 .sp),.s .gr]]⟩
noncomputable def fM.l2.c {γ:Type} (YK:HdK γ) (K:gF→St→Option γ) (c4:Int) (c5:Int) (c6:List (List P.S41)) (c7:List P.S43):=((K .ret ((⟨[nO,nO,.one (.lb false)]++nOs 75,[.box 25 [.i .i64,.i .i64,.s (.sl 41 .sp),.s .gr]]⟩:PS).mk' [.i c4,.i c5,.l (.sl 41 .sp) c6,.l .gr c7])),(K (.exit 2) ((⟨nOs 78,[.box 25 [.i .i64,.i .i64,.s (.sl 41 .sp),.s .gr]]⟩:PS).mk' [.i c4,.i c5,.l (.sl 41 .sp) c6,.l .gr c7])))
noncomputable def fM.l2.g {γ:Type} (YK:HdK γ) (k:Nat) (K:gF→St→Option γ):List Lf→Option γ
  | [.l .gr c1,.i c2,.i v3,.i c4,.i c5,.l (.sl 41 .sp) c6,.l .gr c7]=>let q:=fM.l2.c YK K c4 c5 c6 c7;fM.l2 q.1 q.2 c1 c2 c7 k v3
  | _=>none
noncomputable def fM.l0.p:PS:=⟨[nO,.one (.bp 0 0)]++nOs 76,[.box 25 [.i .i64,.i .i64,.s (.sl 41 .sp),.s .gr]]⟩
noncomputable def fM.l0.c {γ:Type} (YK:HdK γ) (K:gF→St→Option γ)  := ((fun y1 y2 y3 y4=>K .ret ((⟨[nO,nO,.one (.lb false)]++nOs 75,[.box 25 [.i .i64,.i .i64,.s (.sl 41 .sp),.s .gr]]⟩:PS).mk' [.i y1,.i y2,.l (.sl 41 .sp) y3,.l .gr y4])),(fun y1 y2 y3 y4=>K .ret ((⟨[nO,nO,.one (.lb true)]++nOs 75,[.box 25 [.i .i64,.i .i64,.s (.sl 41 .sp),.s .gr]]⟩:PS).mk' [.i y1,.i y2,.l (.sl 41 .sp) y3,.l .gr y4])))
noncomputable def fM.l0.g {γ:Type} (YK:HdK γ) (k:Nat) (K:gF→St→Option γ):List Lf→Option γ
  | [.i v1,.i v2,.l (.sl 41 .sp) v3,.l .gr v4]=>let q:=fM.l0.c YK K;fM.l0 q.1 q.2 k v1 v2 v3 v4
  | _=>none
noncomputable def fM.C {γ:Type}:Ctx γ:=mkC (fun k=>mkE [(37,iR.m k),(108,gN.m k)] []) [(69,Tryz.f69)] [(69,mkA [] [(0,[1,33,34,35]),(2,[1,44,45,46]),(1000010,[1])] [(0,[1,2]),(2,[2]),(1000010,[2])] [])] [⟨0,69,0,jB [(fM.l1.p,fM.l1.g)]⟩,⟨0,69,2,jB [(fM.l2.p,fM.l2.g)]⟩,⟨0,69,1000010,jB [(fM.l0.p,fM.l0.g)]⟩] []
theorem fM.l1.eq {γ:Type} (YK:HdK γ) (rl:Option Nat) (K:gF→St→Option γ) (c1:List (List P.S41)) (c2:Int) (c4:Int) (c5:Int) (c6:List (List P.S41)) (c7:List P.S43):∀ k:Nat,(fun (v3:Int)=>fM.C.lK 0 69 0 Tryz.f69 YK rl 1 k (fM.l1.p.mk' [.l (.sl 41 .sp) c1,.i c2,.i v3,.i c4,.i c5,.l (.sl 41 .sp) c6,.l .gr c7]) K)=(fun (v3:Int)=>fM.l1.g YK k K [.l (.sl 41 .sp) c1,.i c2,.i v3,.i c4,.i c5,.l (.sl 41 .sp) c6,.l .gr c7]):=iF (fun R k v3=>fM.l1T (fM.l1.c YK K c4 c5 c6 c7).1 (fM.l1.c YK K c4 c5 c6 c7).2 c1 c2 R k v3) (by kernel_rfl) (fun k=>by kernel_rfl) (fun k=>by kernel_rfl)
theorem fM.l2.eq {γ:Type} (YK:HdK γ) (rl:Option Nat) (K:gF→St→Option γ) (c1:List P.S43) (c2:Int) (c4:Int) (c5:Int) (c6:List (List P.S41)) (c7:List P.S43):∀ k:Nat,(fun (v3:Int)=>fM.C.lK 0 69 2 Tryz.f69 YK rl 1 k (fM.l2.p.mk' [.l .gr c1,.i c2,.i v3,.i c4,.i c5,.l (.sl 41 .sp) c6,.l .gr c7]) K)=(fun (v3:Int)=>fM.l2.g YK k K [.l .gr c1,.i c2,.i v3,.i c4,.i c5,.l (.sl 41 .sp) c6,.l .gr c7]):=iF (fun R k v3=>fM.l2T (fM.l2.c YK K c4 c5 c6 c7).1 (fM.l2.c YK K c4 c5 c6 c7).2 c1 c2 c7 R k v3) (by kernel_rfl) (fun k=>by kernel_rfl) (fun k=>by kernel_rfl)
theorem fM.l0.eq {γ:Type} (YK:HdK γ) (rl:Option Nat) (K:gF→St→Option γ) (k:Nat) (v1:Int) (v2:Int) (v3:List (List P.S41)) (v4:List P.S43):fM.C.lK 0 69 1000010 Tryz.f69 YK rl 1 k (fM.l0.p.mk' [.i v1,.i v2,.l (.sl 41 .sp) v3,.l .gr v4]) K=fM.l0.g YK k K [.i v1,.i v2,.l (.sl 41 .sp) v3,.l .gr v4]:=by kernel_rfl
theorem fM.iM {γ:Type}:(fM.C (γ:=γ)).Ok:=⟨(all_cons (fun k=>by kernel_rfl) all_nil),(all_cons (by kernel_rfl) all_nil),all_nil⟩
theorem fM.e0 {γ:Type}:je (fM.C (γ:=γ)) ⟨0,69,0,jB [(fM.l1.p,fM.l1.g)]⟩:=fM.iM.lZ Tryz.f69 [] (by kernel_rfl) (by kernel_rfl) (by kernel_rfl) (all_cons jE (all_cons jE (all_cons jE all_nil))) (all_cons (fun YK rl k ls K v hv=>(show fM.l1.g YK k K ls=some v→_ from fun hv=>by
  unfold fM.l1.g at hv;split at hv
  · exact (congrFun (fM.l1.eq YK rl K _ _ _ _ _ _ k) _).trans hv
  · cases hv) hv) all_nil)
theorem fM.e1 {γ:Type}:je (fM.C (γ:=γ)) ⟨0,69,2,jB [(fM.l2.p,fM.l2.g)]⟩:=fM.iM.lZ Tryz.f69 [] (by kernel_rfl) (by kernel_rfl) (by kernel_rfl) (all_cons jE (all_cons jE (all_cons jE all_nil))) (all_cons (fun YK rl k ls K v hv=>(show fM.l2.g YK k K ls=some v→_ from fun hv=>by
  unfold fM.l2.g at hv;split at hv
  · exact (congrFun (fM.l2.eq YK rl K _ _ _ _ _ _ k) _).trans hv
  · cases hv) hv) all_nil)
theorem fM.e2 {γ:Type}:je (fM.C (γ:=γ)) ⟨0,69,1000010,jB [(fM.l0.p,fM.l0.g)]⟩:=fM.iM.lZ Tryz.f69 [0,2] (by kernel_rfl) (by kernel_rfl) (by kernel_rfl) (all_cons (fun _=>fM.e0) (all_cons (fun _=>fM.e1) (all_cons jE all_nil))) (all_cons (fun YK rl k ls K v hv=>(show fM.l0.g YK k K ls=some v→_ from fun hv=>by
  unfold fM.l0.g at hv;split at hv
  · exact (fM.l0.eq YK rl K k _ _ _ _).trans hv
  · cases hv) hv) all_nil)
theorem fM.ok (k:Nat):jM Tryz.prog 69 (fM.m k).s:=okW fM.iM 0 Tryz.f69 k all_nil (fun k=>all_cons (iR.ok k) (all_cons (gN.ok k) (all_nil))) (all_cons ⟨Tryz.func69,by kernel_rfl⟩ all_nil) (all_cons fM.e0 (all_cons fM.e1 (all_cons fM.e2 all_nil))) (by kernel_rfl) (by kernel_rfl) (fun a=>by kernel_rfl)
noncomputable def fU.m (k:Nat):Sm:=jN [.fm] [.pl .bool] (fun a=>fU.f k a.1.f0 a.1.f1 a.1.f2 a.1.f3)
noncomputable def fU.l0.p:PS:=⟨[nO,.one (.bp 0 0),nO,.one (.o 28 (.sl 41 .sp))]++nOs 7++[.one (.s (.sl 41 .sp)),.one (.i .i64),.one (.i .i64)]++nOs 48,[.box 25 [.i .i64,.i .i64,.s (.sl 41 .sp),.s .gr]]⟩
noncomputable def fU.l0.c {γ:Type} (YK:HdK γ) (K:gF→St→Option γ) (c5:Int) (c6:Int) (c7:List (List P.S41)) (c8:List P.S43):=(fun y1=>K (.exit 0) ((⟨[nO,.one (.bp 0 0),nO,.one (.o 28 (.sl 41 .sp))]++nOs 58,[.box 25 [.i .i64,.i .i64,.s (.sl 41 .sp),.s .gr]]⟩:PS).mk' [.l (.sl 41 .sp) y1,.i c5,.i c6,.l (.sl 41 .sp) c7,.l .gr c8]))
noncomputable def fU.l0.g {γ:Type} (YK:HdK γ) (k:Nat) (K:gF→St→Option γ):List Lf→Option γ
  | [.l (.sl 41 .sp) v1,.l (.sl 41 .sp) c2,.i c3,.i v4,.i c5,.i c6,.l (.sl 41 .sp) c7,.l .gr c8]=>fU.l0 (fU.l0.c YK K c5 c6 c7 c8) c2 c3 k v1 v4
  | _=>none
noncomputable def fU.l1.p:PS:=⟨[nO,.one (.bp 0 0),nO,.one (.o 28 (.sl 41 .sp))]++nOs 21++[.one (.s (.sl 41 .sp)),.one (.i .i64),.one (.i .i64)]++nOs 34,[.box 25 [.i .i64,.i .i64,.s (.sl 41 .sp),.s .gr]]⟩
noncomputable def fU.l1.c {γ:Type} (YK:HdK γ) (K:gF→St→Option γ) (c5:Int) (c6:Int) (c7:List (List P.S41)) (c8:List P.S43):=((K .ret ((⟨[nO,nO,.one (.lb false)]++nOs 59,[.box 25 [.i .i64,.i .i64,.s (.sl 41 .sp),.s .gr]]⟩:PS).mk' [.i c5,.i c6,.l (.sl 41 .sp) c7,.l .gr c8])),(K (.exit 2) ((⟨nOs 62,[.box 25 [.i .i64,.i .i64,.s (.sl 41 .sp),.s .gr]]⟩:PS).mk' [.i c5,.i c6,.l (.sl 41 .sp) c7,.l .gr c8])))
noncomputable def fU.l1.g {γ:Type} (YK:HdK γ) (k:Nat) (K:gF→St→Option γ):List Lf→Option γ
  | [.l (.sl 41 .sp) c1,.l (.sl 41 .sp) c2,.i c3,.i v4,.i c5,.i c6,.l (.sl 41 .sp) c7,.l .gr c8]=>let q:=fU.l1.c YK K c5 c6 c7 c8;fU.l1 q.1 q.2 c1 c2 c3 c5 k v4
  | _=>none
noncomputable def fU.C {γ:Type}:Ctx γ:=mkC (fun k=>mkE [] []) [(70,Tryz.f70)] [(70,mkA [20] [(0,[1,3,11,12,13]),(2,[1,3,25,26,27])] [(0,[1,3]),(2,[2])] [])] [⟨0,70,0,jB [(fU.l0.p,fU.l0.g)]⟩,⟨0,70,2,jB [(fU.l1.p,fU.l1.g)]⟩] []
theorem fU.l0.eq {γ:Type} (YK:HdK γ) (rl:Option Nat) (K:gF→St→Option γ) (c2:List (List P.S41)) (c3:Int) (c5:Int) (c6:Int) (c7:List (List P.S41)) (c8:List P.S43):∀ k:Nat,(fun (v1:List (List P.S41)) (v4:Int)=>fU.C.lK 0 70 0 Tryz.f70 YK rl 1 k (fU.l0.p.mk' [.l (.sl 41 .sp) v1,.l (.sl 41 .sp) c2,.i c3,.i v4,.i c5,.i c6,.l (.sl 41 .sp) c7,.l .gr c8]) K)=(fun (v1:List (List P.S41)) (v4:Int)=>fU.l0.g YK k K [.l (.sl 41 .sp) v1,.l (.sl 41 .sp) c2,.i c3,.i v4,.i c5,.i c6,.l (.sl 41 .sp) c7,.l .gr c8]):=iF (fun R k v1 v4=>fU.l0T (fU.l0.c YK K c5 c6 c7 c8) c2 c3 R k v1 v4) (by kernel_rfl) (fun k=>by kernel_rfl) (fun k=>by kernel_rfl)
theorem fU.l1.eq {γ:Type} (YK:HdK γ) (rl:Option Nat) (K:gF→St→Option γ) (c1:List (List P.S41)) (c2:List (List P.S41)) (c3:Int) (c5:Int) (c6:Int) (c7:List (List P.S41)) (c8:List P.S43):∀ k:Nat,(fun (v4:Int)=>fU.C.lK 0 70 2 Tryz.f70 YK rl 1 k (fU.l1.p.mk' [.l (.sl 41 .sp) c1,.l (.sl 41 .sp) c2,.i c3,.i v4,.i c5,.i c6,.l (.sl 41 .sp) c7,.l .gr c8]) K)=(fun (v4:Int)=>fU.l1.g YK k K [.l (.sl 41 .sp) c1,.l (.sl 41 .sp) c2,.i c3,.i v4,.i c5,.i c6,.l (.sl 41 .sp) c7,.l .gr c8]):=iF (fun R k v4=>fU.l1T (fU.l1.c YK K c5 c6 c7 c8).1 (fU.l1.c YK K c5 c6 c7 c8).2 c1 c2 c3 c5 R k v4) (by kernel_rfl) (fun k=>by kernel_rfl) (fun k=>by kernel_rfl)
theorem fU.iM {γ:Type}:(fU.C (γ:=γ)).Ok:=⟨(all_cons (fun k=>by kernel_rfl) all_nil),(all_cons (by kernel_rfl) all_nil),all_nil⟩
theorem fU.e0 {γ:Type}:je (fU.C (γ:=γ)) ⟨0,70,0,jB [(fU.l0.p,fU.l0.g)]⟩:=fU.iM.lZ Tryz.f70 [] (by kernel_rfl) (by kernel_rfl) (by kernel_rfl) (all_cons jE (all_cons jE all_nil)) (all_cons (fun YK rl k ls K v hv=>(show fU.l0.g YK k K ls=some v→_ from fun hv=>by
  unfold fU.l0.g at hv;split at hv
  · exact (congrFun (congrFun (fU.l0.eq YK rl K _ _ _ _ _ _ k) _) _).trans hv
  · cases hv) hv) all_nil)
theorem fU.e1 {γ:Type}:je (fU.C (γ:=γ)) ⟨0,70,2,jB [(fU.l1.p,fU.l1.g)]⟩:=fU.iM.lZ Tryz.f70 [] (by kernel_rfl) (by kernel_rfl) (by kernel_rfl) (all_cons jE (all_cons jE all_nil)) (all_cons (fun YK rl k ls K v hv=>(show fU.l1.g YK k K ls=some v→_ from fun hv=>by
  unfold fU.l1.g at hv;split at hv
  · exact (congrFun (fU.l1.eq YK rl K _ _ _ _ _ _ _ k) _).trans hv
  · cases hv) hv) all_nil)
theorem fU.ok (k:Nat):jM Tryz.prog 70 (fU.m k).s:=okW fU.iM 0 Tryz.f70 k all_nil (fun k=>all_nil) (all_cons ⟨Tryz.func70,by kernel_rfl⟩ all_nil) (all_cons fU.e0 (all_cons fU.e1 all_nil)) (by kernel_rfl) (by kernel_rfl) (fun a=>by kernel_rfl)
noncomputable def iJ.m (k:Nat):Sm:=jN [(.int .i64),(.int .i64)] [.pl (.int .i64),.pl (.int .i64),.pl (.int .i64)] (fun a=>iJ.f k a.1 a.2.1)
noncomputable def iJ.C {γ:Type}:Ctx γ:=mkC (fun k=>mkE [] []) [(46,Tryz.f46)] [(46,mkA [] [] [] [])] [] []
theorem iJ.iM {γ:Type}:(iJ.C (γ:=γ)).Ok:=⟨(all_cons (fun k=>by kernel_rfl) all_nil),(all_cons (by kernel_rfl) all_nil),all_nil⟩
theorem iJ.ok (k:Nat):jM Tryz.prog 46 (iJ.m k).s:=okW iJ.iM 0 Tryz.f46 k all_nil (fun k=>all_nil) (all_cons ⟨Tryz.func46,by kernel_rfl⟩ all_nil) all_nil (by kernel_rfl) (by kernel_rfl) (fun a=>by kernel_rfl)
noncomputable def cmp_isNaN_int.m (k:Nat):Sm:=jN [(.int .i64)] [.pl .bool] (fun a=>cmp_isNaN_int.f k a.1)
noncomputable def cmp_isNaN_int.C {γ:Type}:Ctx γ:=mkC (fun k=>mkE [] []) [(144,Tryz.f144)] [(144,mkA [] [] [] [])] [] []
theorem cmp_isNaN_int.iM {γ:Type}:(cmp_isNaN_int.C (γ:=γ)).Ok:=⟨(all_cons (fun k=>by kernel_rfl) all_nil),(all_cons (by kernel_rfl) all_nil),all_nil⟩
theorem cmp_isNaN_int.ok (k:Nat):jM Tryz.prog 144 (cmp_isNaN_int.m k).s:=okW cmp_isNaN_int.iM 0 Tryz.f144 k all_nil (fun k=>all_nil) (all_cons ⟨Tryz.func144,by kernel_rfl⟩ all_nil) all_nil (by kernel_rfl) (by kernel_rfl) (fun a=>by kernel_rfl)
noncomputable def cmp_Compare_int.m (k:Nat):Sm:=jN [(.int .i64),(.int .i64)] [.pl (.int .i64)] (fun a=>cmp_Compare_int.f k a.1 a.2.1)
noncomputable def cmp_Compare_int.C {γ:Type}:Ctx γ:=mkC (fun k=>mkE [(144,cmp_isNaN_int.m k)] []) [(112,Tryz.f112)] [(112,mkA [] [] [] [])] [] []
theorem cmp_Compare_int.iM {γ:Type}:(cmp_Compare_int.C (γ:=γ)).Ok:=⟨(all_cons (fun k=>by kernel_rfl) all_nil),(all_cons (by kernel_rfl) all_nil),all_nil⟩
theorem cmp_Compare_int.ok (k:Nat):jM Tryz.prog 112 (cmp_Compare_int.m k).s:=okW cmp_Compare_int.iM 0 Tryz.f112 k all_nil (fun k=>all_cons (cmp_isNaN_int.ok k) (all_nil)) (all_cons ⟨Tryz.func112,by kernel_rfl⟩ all_nil) all_nil (by kernel_rfl) (by kernel_rfl) (fun a=>by kernel_rfl)
noncomputable def jy.m (k:Nat):Sm:=jN [.gr,(.int .i64)] [.pl (.int .i64)] (fun a=>jy.f k a.1.f0 a.1.f1 a.2.1)
noncomputable def jy.C {γ:Type}:Ctx γ:=mkC (fun k=>mkE [(112,cmp_Compare_int.m k)] []) [(111,Tryz.f111)] [(111,mkA [] [] [] [])] [] []
theorem jy.iM {γ:Type}:(jy.C (γ:=γ)).Ok:=⟨(all_cons (fun k=>by kernel_rfl) all_nil),(all_cons (by kernel_rfl) all_nil),all_nil⟩
theorem jy.ok (k:Nat):jM Tryz.prog 111 (jy.m k).s:=okW jy.iM 0 Tryz.f111 k all_nil (fun k=>all_cons (cmp_Compare_int.ok k) (all_nil)) (all_cons ⟨Tryz.func111,by kernel_rfl⟩ all_nil) all_nil (by kernel_rfl) (by kernel_rfl) (fun a=>by kernel_rfl)
noncomputable def iw.m (k:Nat):Sm:=jN [.fm,(.int .i64)] [.pl (.int .i64),.pl .bool] (fun a=>iw.f k a.1.f0 a.1.f1 a.1.f2 a.1.f3 a.2.1)
noncomputable def iw.l0.p:PS:=⟨[.one (.s .gr),.one (.i .i64),.one (.fn 111 [])]++nOs 5++[.one (.i .i64),.one (.i .i64),.one (.i .i64)]++nOs 38,[.box 25 [.i .i64,.i .i64,.s (.sl 41 .sp),.s .gr]]⟩
noncomputable def iw.l0.c {γ:Type} (YK:HdK γ) (K:gF→St→Option γ) (c1:List P.S43) (c2:Int) (c3:Int) (c6:Int) (c7:Int) (c8:List (List P.S41)) (c9:List P.S43):=(fun y1=>K (.exit 0) ((⟨[.one (.s .gr),.one (.i .i64),.one (.fn 111 [])]++nOs 5++[.one (.i .i64),.one (.i .i64)]++nOs 39,[.box 25 [.i .i64,.i .i64,.s (.sl 41 .sp),.s .gr]]⟩:PS).mk' [.l .gr c1,.i c2,.i c3,.i y1,.i c6,.i c7,.l (.sl 41 .sp) c8,.l .gr c9]))
noncomputable def iw.l0.g {γ:Type} (YK:HdK γ) (k:Nat) (K:gF→St→Option γ):List Lf→Option γ
  | [.l .gr c1,.i c2,.i c3,.i v4,.i v5,.i c6,.i c7,.l (.sl 41 .sp) c8,.l .gr c9]=>iw.l0 (iw.l0.c YK K c1 c2 c3 c6 c7 c8 c9) c1 c2 k v4 v5
  | _=>none
noncomputable def iw.C {γ:Type}:Ctx γ:=mkC (fun k=>mkE [(111,jy.m k)] []) [(72,Tryz.f72),(110,Tryz.f110)] [(72,mkA [] [] [] []),(110,mkA [] [(0,[0,1,2,8,9,10])] [(0,[0,1,2,8,9])] [])] [⟨0,110,0,jB [(iw.l0.p,iw.l0.g)]⟩] []
theorem iw.l0.eq {γ:Type} (YK:HdK γ) (rl:Option Nat) (K:gF→St→Option γ) (c1:List P.S43) (c2:Int) (c3:Int) (c6:Int) (c7:Int) (c8:List (List P.S41)) (c9:List P.S43):∀ k:Nat,(fun (v4:Int) (v5:Int)=>iw.C.lK 0 110 0 Tryz.f110 YK rl 1 k (iw.l0.p.mk' [.l .gr c1,.i c2,.i c3,.i v4,.i v5,.i c6,.i c7,.l (.sl 41 .sp) c8,.l .gr c9]) K)=(fun (v4:Int) (v5:Int)=>iw.l0.g YK k K [.l .gr c1,.i c2,.i c3,.i v4,.i v5,.i c6,.i c7,.l (.sl 41 .sp) c8,.l .gr c9]):=iF (fun R k v4 v5=>iw.l0T (iw.l0.c YK K c1 c2 c3 c6 c7 c8 c9) c1 c2 R k v4 v5) (by kernel_rfl) (fun k=>by kernel_rfl) (fun k=>by kernel_rfl)
theorem iw.iM {γ:Type}:(iw.C (γ:=γ)).Ok:=⟨(all_cons (fun k=>by kernel_rfl) (all_cons (fun k=>by kernel_rfl) all_nil)),(all_cons (by kernel_rfl) (all_cons (by kernel_rfl) all_nil)),all_nil⟩
theorem iw.e0 {γ:Type}:je (iw.C (γ:=γ)) ⟨0,110,0,jB [(iw.l0.p,iw.l0.g)]⟩:=iw.iM.lZ Tryz.f110 [] (by kernel_rfl) (by kernel_rfl) (by kernel_rfl) (all_cons jE all_nil) (all_cons (fun YK rl k ls K v hv=>(show iw.l0.g YK k K ls=some v→_ from fun hv=>by
  unfold iw.l0.g at hv;split at hv
  · exact (congrFun (congrFun (iw.l0.eq YK rl K _ _ _ _ _ _ _ k) _) _).trans hv
  · cases hv) hv) all_nil)
theorem iw.ok (k:Nat):jM Tryz.prog 72 (iw.m k).s:=okW iw.iM 1 Tryz.f72 k all_nil (fun k=>all_cons (jy.ok k) (all_nil)) (all_cons ⟨Tryz.func72,by kernel_rfl⟩ (all_cons ⟨Tryz.func110,by kernel_rfl⟩ all_nil)) (all_cons iw.e0 all_nil) (by kernel_rfl) (by kernel_rfl) (fun a=>by kernel_rfl)
noncomputable def bits_Mul64.m (k:Nat):Sm:=jN [(.int .u64),(.int .u64)] [.pl (.int .u64),.pl (.int .u64)] (fun a=>bits_Mul64.f k a.1 a.2.1)
noncomputable def bits_Mul64.C {γ:Type}:Ctx γ:=mkC (fun k=>mkE [] []) [(113,Tryz.f113)] [(113,mkA [] [] [] [])] [] []
theorem bits_Mul64.iM {γ:Type}:(bits_Mul64.C (γ:=γ)).Ok:=⟨(all_cons (fun k=>by kernel_rfl) all_nil),(all_cons (by kernel_rfl) all_nil),all_nil⟩
theorem bits_Mul64.ok (k:Nat):jM Tryz.prog 113 (bits_Mul64.m k).s:=okW bits_Mul64.iM 0 Tryz.f113 k all_nil (fun k=>all_nil) (all_cons ⟨Tryz.func113,by kernel_rfl⟩ all_nil) all_nil (by kernel_rfl) (by kernel_rfl) (fun a=>by kernel_rfl)
noncomputable def jl.m (k:Nat):Sm:=jN [(.int .i64)] [.pl (.int .u64)] (fun a=>jl.f k a.1)
noncomputable def jl.C {γ:Type}:Ctx γ:=mkC (fun k=>mkE [] []) [(114,Tryz.f114)] [(114,mkA [] [] [] [])] [] []
theorem jl.iM {γ:Type}:(jl.C (γ:=γ)).Ok:=⟨(all_cons (fun k=>by kernel_rfl) all_nil),(all_cons (by kernel_rfl) all_nil),all_nil⟩
theorem jl.ok (k:Nat):jM Tryz.prog 114 (jl.m k).s:=okW jl.iM 0 Tryz.f114 k all_nil (fun k=>all_nil) (all_cons ⟨Tryz.func114,by kernel_rfl⟩ all_nil) all_nil (by kernel_rfl) (by kernel_rfl) (fun a=>by kernel_rfl)
noncomputable def iX.m (k:Nat):Sm:=jN [(.int .u64),.bool] [.pl (.int .i64),.pl (.int .i64)] (fun a=>iX.f k a.1 a.2.1)
noncomputable def iX.C {γ:Type}:Ctx γ:=mkC (fun k=>mkE [] []) [(115,Tryz.f115)] [(115,mkA [] [] [] [])] [] []
theorem iX.iM {γ:Type}:(iX.C (γ:=γ)).Ok:=⟨(all_cons (fun k=>by kernel_rfl) all_nil),(all_cons (by kernel_rfl) all_nil),all_nil⟩
theorem iX.ok (k:Nat):jM Tryz.prog 115 (iX.m k).s:=okW iX.iM 0 Tryz.f115 k all_nil (fun k=>all_nil) (all_cons ⟨Tryz.func115,by kernel_rfl⟩ all_nil) all_nil (by kernel_rfl) (by kernel_rfl) (fun a=>by kernel_rfl)
noncomputable def jA.m (k:Nat):Sm:=jN [(.int .i64),(.int .i64)] [.pl (.int .i64),.pl (.int .i64)] (fun a=>jA.f k a.1 a.2.1)
noncomputable def jA.C {γ:Type}:Ctx γ:=mkC (fun k=>mkE [(113,bits_Mul64.m k),(114,jl.m k),(115,iX.m k)] []) [(73,Tryz.f73)] [(73,mkA [] [] [] [])] [] []
theorem jA.iM {γ:Type}:(jA.C (γ:=γ)).Ok:=⟨(all_cons (fun k=>by kernel_rfl) all_nil),(all_cons (by kernel_rfl) all_nil),all_nil⟩
theorem jA.ok (k:Nat):jM Tryz.prog 73 (jA.m k).s:=okW jA.iM 0 Tryz.f73 k all_nil (fun k=>all_cons (bits_Mul64.ok k) (all_cons (jl.ok k) (all_cons (iX.ok k) (all_nil)))) (all_cons ⟨Tryz.func73,by kernel_rfl⟩ all_nil) all_nil (by kernel_rfl) (by kernel_rfl) (fun a=>by kernel_rfl)
noncomputable def jD.m (k:Nat):Sm:=jN [.fm,(.int .i64)] [.pl (.sl 41 .sp),.pl (.int .i64),.pl (.int .i64)] (fun a=>jD.f k a.1.f0 a.1.f1 a.1.f2 a.1.f3 a.2.1)
noncomputable def jD.C {γ:Type}:Ctx γ:=mkC (fun k=>mkE [(46,iJ.m k),(72,iw.m k),(73,jA.m k)] []) [(38,Tryz.f38)] [(38,mkA [] [] [] [])] [] []
theorem jD.iM {γ:Type}:(jD.C (γ:=γ)).Ok:=⟨(all_cons (fun k=>by kernel_rfl) all_nil),(all_cons (by kernel_rfl) all_nil),all_nil⟩
theorem jD.ok (k:Nat):jM Tryz.prog 38 (jD.m k).s:=okW jD.iM 0 Tryz.f38 k all_nil (fun k=>all_cons (iJ.ok k) (all_cons (iw.ok k) (all_cons (jA.ok k) (all_nil)))) (all_cons ⟨Tryz.func38,by kernel_rfl⟩ all_nil) all_nil (by kernel_rfl) (by kernel_rfl) (fun a=>by kernel_rfl)
noncomputable def jO.m (k:Nat):Sm:=jN [(.int .i64),(.int .i64)] [.pl (.int .i64),.pl (.int .i64)] (fun a=>jO.f k a.1 a.2.1)
noncomputable def jO.C {γ:Type}:Ctx γ:=mkC (fun k=>mkE [] []) [(74,Tryz.f74)] [(74,mkA [] [] [] [])] [] []
theorem jO.iM {γ:Type}:(jO.C (γ:=γ)).Ok:=⟨(all_cons (fun k=>by kernel_rfl) all_nil),(all_cons (by kernel_rfl) all_nil),all_nil⟩
theorem jO.ok (k:Nat):jM Tryz.prog 74 (jO.m k).s:=okW jO.iM 0 Tryz.f74 k all_nil (fun k=>all_nil) (all_cons ⟨Tryz.func74,by kernel_rfl⟩ all_nil) all_nil (by kernel_rfl) (by kernel_rfl) (fun a=>by kernel_rfl)
noncomputable def gQ.m (k:Nat):Sm:=jN [(.sl 41 .sp),(.int .i64)] [.own 41 .sp,.pl (.int .i64)] (fun a=>gQ.f k a.1 a.2.1)
noncomputable def gQ.l0.p:PS:=⟨[nO,.one (.i .i64)]++nOs 4++[.one (.o 41 .sp)]++nOs 6++[.one (.s .sp),.one (.i .i64),.one (.i .i64)]++nOs 41,[]⟩
noncomputable def gQ.l0.c {γ:Type} (YK:HdK γ) (K:gF→St→Option γ)  := ((fun y1=>K .ret ((⟨nOs 4++[.one (.lo 41 .sp),.one (.li .i64 20),.one (.o 41 .sp)]++nOs 50,[]⟩:PS).mk' [.l .sp y1])),(fun y1=>K (.exit 0) ((⟨nOs 6++[.one (.o 41 .sp)]++nOs 50,[]⟩:PS).mk' [.l .sp y1])))
noncomputable def gQ.l0.g {γ:Type} (YK:HdK γ) (k:Nat) (K:gF→St→Option γ):List Lf→Option γ
  | [.i c1,.l .sp v2,.l .sp c3,.i c4,.i v5]=>let q:=gQ.l0.c YK K;gQ.l0 q.1 q.2 c1 c3 c4 k v2 v5
  | _=>none
noncomputable def gQ.C {γ:Type}:Ctx γ:=mkC (fun k=>mkE [(74,jO.m k),(75,iZ.m k)] []) [(39,Tryz.f39)] [(39,mkA [49,56] [(0,[1,6,13,14,15])] [(0,[4,5,6])] [])] [⟨0,39,0,jB [(gQ.l0.p,gQ.l0.g)]⟩] []
theorem gQ.l0.eq {γ:Type} (YK:HdK γ) (rl:Option Nat) (K:gF→St→Option γ) (c1:Int) (c3:List P.S41) (c4:Int):∀ k:Nat,(fun (v2:List P.S41) (v5:Int)=>gQ.C.lK 0 39 0 Tryz.f39 YK rl 0 k (gQ.l0.p.mk' [.i c1,.l .sp v2,.l .sp c3,.i c4,.i v5]) K)=(fun (v2:List P.S41) (v5:Int)=>gQ.l0.g YK k K [.i c1,.l .sp v2,.l .sp c3,.i c4,.i v5]):=iF (fun R k v2 v5=>gQ.l0T (gQ.l0.c YK K).1 (gQ.l0.c YK K).2 c1 c3 c4 R k v2 v5) (by kernel_rfl) (fun k=>by kernel_rfl) (fun k=>by kernel_rfl)
theorem gQ.iM {γ:Type}:(gQ.C (γ:=γ)).Ok:=⟨(all_cons (fun k=>by kernel_rfl) all_nil),(all_cons (by kernel_rfl) all_nil),all_nil⟩
theorem gQ.e0 {γ:Type}:je (gQ.C (γ:=γ)) ⟨0,39,0,jB [(gQ.l0.p,gQ.l0.g)]⟩:=gQ.iM.lZ Tryz.f39 [] (by kernel_rfl) (by kernel_rfl) (by kernel_rfl) (all_cons jE all_nil) (all_cons (fun YK rl k ls K v hv=>(show gQ.l0.g YK k K ls=some v→_ from fun hv=>by
  unfold gQ.l0.g at hv;split at hv
  · exact (congrFun (congrFun (gQ.l0.eq YK rl K _ _ _ k) _) _).trans hv
  · cases hv) hv) all_nil)
theorem gQ.ok (k:Nat):jM Tryz.prog 39 (gQ.m k).s:=okW gQ.iM 0 Tryz.f39 k all_nil (fun k=>all_cons (jO.ok k) (all_cons (iZ.ok k) (all_nil))) (all_cons ⟨Tryz.func39,by kernel_rfl⟩ all_nil) (all_cons gQ.e0 all_nil) (by kernel_rfl) (by kernel_rfl) (fun a=>by kernel_rfl)
noncomputable def iK.m (k:Nat):Sm:=jN [.fm,(.int .i64)] [.own 41 .sp,.pl (.int .i64)] (fun a=>iK.f k a.1.f0 a.1.f1 a.1.f2 a.1.f3 a.2.1)
noncomputable def iK.C {γ:Type}:Ctx γ:=mkC (fun k=>mkE [(37,iR.m k),(38,jD.m k),(39,gQ.m k)] []) [(11,Tryz.f11)] [(11,mkA [27] [] [] [])] [] []
theorem iK.iM {γ:Type}:(iK.C (γ:=γ)).Ok:=⟨(all_cons (fun k=>by kernel_rfl) all_nil),(all_cons (by kernel_rfl) all_nil),all_nil⟩
theorem iK.ok (k:Nat):jM Tryz.prog 11 (iK.m k).s:=okW iK.iM 0 Tryz.f11 k all_nil (fun k=>all_cons (iR.ok k) (all_cons (jD.ok k) (all_cons (gQ.ok k) (all_nil)))) (all_cons ⟨Tryz.func11,by kernel_rfl⟩ all_nil) all_nil (by kernel_rfl) (by kernel_rfl) (fun a=>by kernel_rfl)
noncomputable def jm.m (k:Nat):Sm:=jN [(.sl 41 .sp)] [.pl .bool] (fun a=>jm.f k a.1)
noncomputable def jm.C {γ:Type}:Ctx γ:=mkC (fun k=>mkE [] []) [(158,Tryz.f158)] [(158,mkA [] [] [] [])] [] []
theorem jm.iM {γ:Type}:(jm.C (γ:=γ)).Ok:=⟨(all_cons (fun k=>by kernel_rfl) all_nil),(all_cons (by kernel_rfl) all_nil),all_nil⟩
theorem jm.ok (k:Nat):jM Tryz.prog 158 (jm.m k).s:=okW jm.iM 0 Tryz.f158 k all_nil (fun k=>all_nil) (all_cons ⟨Tryz.func158,by kernel_rfl⟩ all_nil) all_nil (by kernel_rfl) (by kernel_rfl) (fun a=>by kernel_rfl)
noncomputable def gW.m (k:Nat):Sm:=jN [.fm] [.pl .bool] (fun a=>gW.f k a.1.f0 a.1.f1 a.1.f2 a.1.f3)
noncomputable def gW.l0.p:PS:=⟨[.one (.s (.sl 41 .sp)),.one (.fn 158 [])]++nOs 5++[.one (.i .i64),.one (.i .i64)]++nOs 10,[.box 25 [.i .i64,.i .i64,.s (.sl 41 .sp),.s .gr]]⟩
noncomputable def gW.l0.c {γ:Type} (YK:HdK γ) (K:gF→St→Option γ) (c4:Int) (c5:Int) (c6:List (List P.S41)) (c7:List P.S43):=((fun y1=>K .ret ((⟨nOs 4++[.one (.i .i64)]++nOs 14,[.box 25 [.i .i64,.i .i64,.s (.sl 41 .sp),.s .gr]]⟩:PS).mk' [.i y1,.i c4,.i c5,.l (.sl 41 .sp) c6,.l .gr c7])),(K (.exit 0) ((⟨nOs 19,[.box 25 [.i .i64,.i .i64,.s (.sl 41 .sp),.s .gr]]⟩:PS).mk' [.i c4,.i c5,.l (.sl 41 .sp) c6,.l .gr c7])))
noncomputable def gW.l0.g {γ:Type} (YK:HdK γ) (k:Nat) (K:gF→St→Option γ):List Lf→Option γ
  | [.l (.sl 41 .sp) c1,.i c2,.i v3,.i c4,.i c5,.l (.sl 41 .sp) c6,.l .gr c7]=>let q:=gW.l0.c YK K c4 c5 c6 c7;gW.l0 q.1 q.2 c1 c2 k v3
  | _=>none
noncomputable def gW.C {γ:Type}:Ctx γ:=mkC (fun k=>mkE [(158,jm.m k)] []) [(132,Tryz.f132),(157,Tryz.f157),(170,Tryz.f170)] [(132,mkA [] [] [] []),(157,mkA [] [] [] []),(170,mkA [] [(0,[0,1,7,8])] [(0,[4])] [])] [⟨0,170,0,jB [(gW.l0.p,gW.l0.g)]⟩] []
theorem gW.l0.eq {γ:Type} (YK:HdK γ) (rl:Option Nat) (K:gF→St→Option γ) (c1:List (List P.S41)) (c2:Int) (c4:Int) (c5:Int) (c6:List (List P.S41)) (c7:List P.S43):∀ k:Nat,(fun (v3:Int)=>gW.C.lK 0 170 0 Tryz.f170 YK rl 1 k (gW.l0.p.mk' [.l (.sl 41 .sp) c1,.i c2,.i v3,.i c4,.i c5,.l (.sl 41 .sp) c6,.l .gr c7]) K)=(fun (v3:Int)=>gW.l0.g YK k K [.l (.sl 41 .sp) c1,.i c2,.i v3,.i c4,.i c5,.l (.sl 41 .sp) c6,.l .gr c7]):=iF (fun R k v3=>gW.l0T (gW.l0.c YK K c4 c5 c6 c7).1 (gW.l0.c YK K c4 c5 c6 c7).2 c1 c2 R k v3) (by kernel_rfl) (fun k=>by kernel_rfl) (fun k=>by kernel_rfl)
theorem gW.iM {γ:Type}:(gW.C (γ:=γ)).Ok:=⟨(all_cons (fun k=>by kernel_rfl) (all_cons (fun k=>by kernel_rfl) (all_cons (fun k=>by kernel_rfl) all_nil))),(all_cons (by kernel_rfl) (all_cons (by kernel_rfl) (all_cons (by kernel_rfl) all_nil))),all_nil⟩
theorem gW.e0 {γ:Type}:je (gW.C (γ:=γ)) ⟨0,170,0,jB [(gW.l0.p,gW.l0.g)]⟩:=gW.iM.lZ Tryz.f170 [] (by kernel_rfl) (by kernel_rfl) (by kernel_rfl) (all_cons jE all_nil) (all_cons (fun YK rl k ls K v hv=>(show gW.l0.g YK k K ls=some v→_ from fun hv=>by
  unfold gW.l0.g at hv;split at hv
  · exact (congrFun (gW.l0.eq YK rl K _ _ _ _ _ _ k) _).trans hv
  · cases hv) hv) all_nil)
theorem gW.ok (k:Nat):jM Tryz.prog 132 (gW.m k).s:=okW gW.iM 2 Tryz.f132 k all_nil (fun k=>all_cons (jm.ok k) (all_nil)) (all_cons ⟨Tryz.func132,by kernel_rfl⟩ (all_cons ⟨Tryz.func157,by kernel_rfl⟩ (all_cons ⟨Tryz.func170,by kernel_rfl⟩ all_nil))) (all_cons gW.e0 all_nil) (by kernel_rfl) (by kernel_rfl) (fun a=>by kernel_rfl)
end Go.Proofs.YtongeknogcboiaaGreat.R
namespace Go.Proofs.YtongeknogcboiaaGreat.R
open M Go.RowKit Go.Proofs.YtongeknogcboiaaGreatW.fK Go.Proofs.YtongeknogcboiaaGreatW.gP Go.Proofs.YtongeknogcboiaaGreatW.iE
set_option linter.unusedVariables false
noncomputable def jT.m (k:Nat):Sm:=jN [.fm,(.int .i64)] [.pl .bool] (fun a=>jT.f k a.1.f0 a.1.f1 a.1.f2 a.1.f3 a.2.1)
noncomputable def jT.C {γ:Type}:Ctx γ:=mkC (fun k=>mkE [(38,jD.m k)] []) [(133,Tryz.f133)] [(133,mkA [] [] [] [])] [] []
theorem jT.iM {γ:Type}:(jT.C (γ:=γ)).Ok:=⟨(all_cons (fun k=>by kernel_rfl) all_nil),(all_cons (by kernel_rfl) all_nil),all_nil⟩
theorem jT.ok (k:Nat):jM Tryz.prog 133 (jT.m k).s:=okW jT.iM 0 Tryz.f133 k all_nil (fun k=>all_cons (jD.ok k) (all_nil)) (all_cons ⟨Tryz.func133,by kernel_rfl⟩ all_nil) all_nil (by kernel_rfl) (by kernel_rfl) (fun a=>by kernel_rfl)
noncomputable def fO.m (k:Nat):Sm:=jN [.fm,(.int .i64),(.int .i64)] [.pl (.int .i64),.pl .bool] (fun a=>fO.f k a.1.f0 a.1.f1 a.1.f2 a.1.f3 a.2.1 a.2.2.1)
noncomputable def fO.l1.p:PS:=⟨[nO,nO,.one (.i .i64),.one (.bp 0 0)]++nOs 4++[.one (.i .i64)]++nOs 54,[.box 25 [.i .i64,.i .i64,.s (.sl 41 .sp),.s .gr]]⟩
noncomputable def fO.l1.c {γ:Type} (YK:HdK γ) (K:gF→St→Option γ) (c3:Int) (c4:Int) (c5:List (List P.S41)) (c6:List P.S43):=((fun y1=>K .ret ((⟨nOs 6++[.one (.i .i64),.one (.lb true)]++nOs 55,[.box 25 [.i .i64,.i .i64,.s (.sl 41 .sp),.s .gr]]⟩:PS).mk' [.i y1,.i c3,.i c4,.l (.sl 41 .sp) c5,.l .gr c6])),(K (.exit 0) ((⟨nOs 63,[.box 25 [.i .i64,.i .i64,.s (.sl 41 .sp),.s .gr]]⟩:PS).mk' [.i c3,.i c4,.l (.sl 41 .sp) c5,.l .gr c6])))
noncomputable def fO.l1.g {γ:Type} (YK:HdK γ) (k:Nat) (K:gF→St→Option γ):List Lf→Option γ
  | [.i c1,.i v2,.i c3,.i c4,.l (.sl 41 .sp) c5,.l .gr c6]=>let q:=fO.l1.c YK K c3 c4 c5 c6;fO.l1 q.1 q.2 c1 c6 k v2
  | _=>none
noncomputable def fO.l0.p:PS:=⟨[nO,nO,.one (.i .i64),.one (.bp 0 0)]++nOs 4++[.one (.i .i64)]++nOs 54,[.box 25 [.i .i64,.i .i64,.s (.sl 41 .sp),.s .gr]]⟩
noncomputable def fO.l0.c {γ:Type} (YK:HdK γ) (K:gF→St→Option γ)  := ((fun y1 y2 y3 y4 y5=>K .ret ((⟨nOs 6++[.one (.i .i64),.one (.lb true)]++nOs 55,[.box 25 [.i .i64,.i .i64,.s (.sl 41 .sp),.s .gr]]⟩:PS).mk' [.i y1,.i y2,.i y3,.l (.sl 41 .sp) y4,.l .gr y5])),(fun y1 y2 y3 y4=>K .ret ((⟨nOs 6++[.one (.li .i64 0),.one (.lb false)]++nOs 55,[.box 25 [.i .i64,.i .i64,.s (.sl 41 .sp),.s .gr]]⟩:PS).mk' [.i y1,.i y2,.l (.sl 41 .sp) y3,.l .gr y4])))
noncomputable def fO.l0.g {γ:Type} (YK:HdK γ) (k:Nat) (K:gF→St→Option γ):List Lf→Option γ
  | [.i v1,.i v2,.i v3,.i v4,.l (.sl 41 .sp) v5,.l .gr v6]=>let q:=fO.l0.c YK K;fO.l0 q.1 q.2 k v1 v2 v3 v4 v5 v6
  | _=>none
noncomputable def fO.l2.p:PS:=⟨[nO,nO,.one (.i .i64),.one (.bp 0 0)]++nOs 6++[.one (.i .i64)]++nOs 52,[.box 25 [.i .i64,.i .i64,.s (.sl 41 .sp),.s .gr]]⟩
noncomputable def fO.l2.c {γ:Type} (YK:HdK γ) (K:gF→St→Option γ) (c3:Int) (c4:Int) (c5:List (List P.S41)) (c6:List P.S43):=((fun y1=>K .ret ((⟨nOs 6++[.one (.i .i64),.one (.lb true)]++nOs 55,[.box 25 [.i .i64,.i .i64,.s (.sl 41 .sp),.s .gr]]⟩:PS).mk' [.i y1,.i c3,.i c4,.l (.sl 41 .sp) c5,.l .gr c6])),(K (.exit 2) ((⟨nOs 63,[.box 25 [.i .i64,.i .i64,.s (.sl 41 .sp),.s .gr]]⟩:PS).mk' [.i c3,.i c4,.l (.sl 41 .sp) c5,.l .gr c6])))
noncomputable def fO.l2.g {γ:Type} (YK:HdK γ) (k:Nat) (K:gF→St→Option γ):List Lf→Option γ
  | [.i c1,.i v2,.i c3,.i c4,.l (.sl 41 .sp) c5,.l .gr c6]=>let q:=fO.l2.c YK K c3 c4 c5 c6;fO.l2 q.1 q.2 c1 c3 c4 c5 c6 k v2
  | _=>none
noncomputable def fO.C {γ:Type}:Ctx γ:=mkC (fun k=>mkE [(37,iR.m k),(72,iw.m k),(132,gW.m k),(133,jT.m k)] []) [(99,Tryz.f99)] [(99,mkA [] [(0,[2,3,8]),(2,[2,3,10]),(1000002,[2,3,8])] [(0,[6,7]),(2,[6,7]),(1000002,[1,2,3,6,7])] [])] [⟨0,99,0,jB [(fO.l1.p,fO.l1.g)]⟩,⟨0,99,1000002,jB [(fO.l0.p,fO.l0.g)]⟩,⟨0,99,2,jB [(fO.l2.p,fO.l2.g)]⟩] []
theorem fO.l1.eq {γ:Type} (YK:HdK γ) (rl:Option Nat) (K:gF→St→Option γ) (c1:Int) (c3:Int) (c4:Int) (c5:List (List P.S41)) (c6:List P.S43):∀ k:Nat,(fun (v2:Int)=>fO.C.lK 0 99 0 Tryz.f99 YK rl 1 k (fO.l1.p.mk' [.i c1,.i v2,.i c3,.i c4,.l (.sl 41 .sp) c5,.l .gr c6]) K)=(fun (v2:Int)=>fO.l1.g YK k K [.i c1,.i v2,.i c3,.i c4,.l (.sl 41 .sp) c5,.l .gr c6]):=iF (fun R k v2=>fO.l1T (fO.l1.c YK K c3 c4 c5 c6).1 (fO.l1.c YK K c3 c4 c5 c6).2 c1 c6 R k v2) (by kernel_rfl) (fun k=>by kernel_rfl) (fun k=>by kernel_rfl)
theorem fO.l0.eq {γ:Type} (YK:HdK γ) (rl:Option Nat) (K:gF→St→Option γ) (k:Nat) (v1:Int) (v2:Int) (v3:Int) (v4:Int) (v5:List (List P.S41)) (v6:List P.S43):fO.C.lK 0 99 1000002 Tryz.f99 YK rl 1 k (fO.l0.p.mk' [.i v1,.i v2,.i v3,.i v4,.l (.sl 41 .sp) v5,.l .gr v6]) K=fO.l0.g YK k K [.i v1,.i v2,.i v3,.i v4,.l (.sl 41 .sp) v5,.l .gr v6]:=by kernel_rfl
theorem fO.l2.eq {γ:Type} (YK:HdK γ) (rl:Option Nat) (K:gF→St→Option γ) (c1:Int) (c3:Int) (c4:Int) (c5:List (List P.S41)) (c6:List P.S43):∀ k:Nat,(fun (v2:Int)=>fO.C.lK 0 99 2 Tryz.f99 YK rl 1 k (fO.l2.p.mk' [.i c1,.i v2,.i c3,.i c4,.l (.sl 41 .sp) c5,.l .gr c6]) K)=(fun (v2:Int)=>fO.l2.g YK k K [.i c1,.i v2,.i c3,.i c4,.l (.sl 41 .sp) c5,.l .gr c6]):=iF (fun R k v2=>fO.l2T (fO.l2.c YK K c3 c4 c5 c6).1 (fO.l2.c YK K c3 c4 c5 c6).2 c1 c3 c4 c5 c6 R k v2) (by kernel_rfl) (fun k=>by kernel_rfl) (fun k=>by kernel_rfl)
theorem fO.iM {γ:Type}:(fO.C (γ:=γ)).Ok:=⟨(all_cons (fun k=>by kernel_rfl) all_nil),(all_cons (by kernel_rfl) all_nil),all_nil⟩
theorem fO.e0 {γ:Type}:je (fO.C (γ:=γ)) ⟨0,99,0,jB [(fO.l1.p,fO.l1.g)]⟩:=fO.iM.lZ Tryz.f99 [] (by kernel_rfl) (by kernel_rfl) (by kernel_rfl) (all_cons jE (all_cons jE (all_cons jE all_nil))) (all_cons (fun YK rl k ls K v hv=>(show fO.l1.g YK k K ls=some v→_ from fun hv=>by
  unfold fO.l1.g at hv;split at hv
  · exact (congrFun (fO.l1.eq YK rl K _ _ _ _ _ k) _).trans hv
  · cases hv) hv) all_nil)
theorem fO.e1 {γ:Type}:je (fO.C (γ:=γ)) ⟨0,99,1000002,jB [(fO.l0.p,fO.l0.g)]⟩:=fO.iM.lZ Tryz.f99 [0] (by kernel_rfl) (by kernel_rfl) (by kernel_rfl) (all_cons (fun _=>fO.e0) (all_cons jE (all_cons jE all_nil))) (all_cons (fun YK rl k ls K v hv=>(show fO.l0.g YK k K ls=some v→_ from fun hv=>by
  unfold fO.l0.g at hv;split at hv
  · exact (fO.l0.eq YK rl K k _ _ _ _ _ _).trans hv
  · cases hv) hv) all_nil)
theorem fO.e2 {γ:Type}:je (fO.C (γ:=γ)) ⟨0,99,2,jB [(fO.l2.p,fO.l2.g)]⟩:=fO.iM.lZ Tryz.f99 [] (by kernel_rfl) (by kernel_rfl) (by kernel_rfl) (all_cons jE (all_cons jE (all_cons jE all_nil))) (all_cons (fun YK rl k ls K v hv=>(show fO.l2.g YK k K ls=some v→_ from fun hv=>by
  unfold fO.l2.g at hv;split at hv
  · exact (congrFun (fO.l2.eq YK rl K _ _ _ _ _ k) _).trans hv
  · cases hv) hv) all_nil)
theorem fO.ok (k:Nat):jM Tryz.prog 99 (fO.m k).s:=okW fO.iM 0 Tryz.f99 k all_nil (fun k=>all_cons (iR.ok k) (all_cons (iw.ok k) (all_cons (gW.ok k) (all_cons (jT.ok k) (all_nil))))) (all_cons ⟨Tryz.func99,by kernel_rfl⟩ all_nil) (all_cons fO.e0 (all_cons fO.e1 (all_cons fO.e2 all_nil))) (by kernel_rfl) (by kernel_rfl) (fun a=>by kernel_rfl)
noncomputable def iC.m (k:Nat):Sm:=jN [.fm,(.int .i64)] [.pl (.int .i64),.pl .bool] (fun a=>iC.f k a.1.f0 a.1.f1 a.1.f2 a.1.f3 a.2.1)
noncomputable def iC.C {γ:Type}:Ctx γ:=mkC (fun k=>mkE [(99,fO.m k)] []) [(60,Tryz.f60)] [(60,mkA [] [] [] [])] [] []
theorem iC.iM {γ:Type}:(iC.C (γ:=γ)).Ok:=⟨(all_cons (fun k=>by kernel_rfl) all_nil),(all_cons (by kernel_rfl) all_nil),all_nil⟩
theorem iC.ok (k:Nat):jM Tryz.prog 60 (iC.m k).s:=okW iC.iM 0 Tryz.f60 k all_nil (fun k=>all_cons (fO.ok k) (all_nil)) (all_cons ⟨Tryz.func60,by kernel_rfl⟩ all_nil) all_nil (by kernel_rfl) (by kernel_rfl) (fun a=>by kernel_rfl)
noncomputable def iL.m (k:Nat):Sm:=jN [.fm,(.int .i64)] [.pl (.int .i64),.pl .bool] (fun a=>iL.f k a.1.f0 a.1.f1 a.1.f2 a.1.f3 a.2.1)
noncomputable def iL.C {γ:Type}:Ctx γ:=mkC (fun k=>mkE [(99,fO.m k)] []) [(61,Tryz.f61)] [(61,mkA [] [] [] [])] [] []
theorem iL.iM {γ:Type}:(iL.C (γ:=γ)).Ok:=⟨(all_cons (fun k=>by kernel_rfl) all_nil),(all_cons (by kernel_rfl) all_nil),all_nil⟩
theorem iL.ok (k:Nat):jM Tryz.prog 61 (iL.m k).s:=okW iL.iM 0 Tryz.f61 k all_nil (fun k=>all_cons (fO.ok k) (all_nil)) (all_cons ⟨Tryz.func61,by kernel_rfl⟩ all_nil) all_nil (by kernel_rfl) (by kernel_rfl) (fun a=>by kernel_rfl)
noncomputable def iD.m (k:Nat):Sm:=jN [(.sl 41 .sp),(.sl 41 .sp)] [.pl .bool] (fun a=>iD.f k a.1 a.2.1)
noncomputable def iD.C {γ:Type}:Ctx γ:=mkC (fun k=>mkE [] []) [(109,Tryz.f109)] [(109,mkA [] [] [] [])] [] []
theorem iD.iM {γ:Type}:(iD.C (γ:=γ)).Ok:=⟨(all_cons (fun k=>by kernel_rfl) all_nil),(all_cons (by kernel_rfl) all_nil),all_nil⟩
theorem iD.ok (k:Nat):jM Tryz.prog 109 (iD.m k).s:=okW iD.iM 0 Tryz.f109 k all_nil (fun k=>all_nil) (all_cons ⟨Tryz.func109,by kernel_rfl⟩ all_nil) all_nil (by kernel_rfl) (by kernel_rfl) (fun a=>by kernel_rfl)
noncomputable def jo.m (k:Nat):Sm:=jN [.fm,(.int .i64)] [.pl .bool] (fun a=>jo.f k a.1.f0 a.1.f1 a.1.f2 a.1.f3 a.2.1)
noncomputable def jo.C {γ:Type}:Ctx γ:=mkC (fun k=>mkE [(11,iK.m k),(60,iC.m k),(61,iL.m k),(109,iD.m k)] []) [(71,Tryz.f71)] [(71,mkA [] [] [] [])] [] []
theorem jo.iM {γ:Type}:(jo.C (γ:=γ)).Ok:=⟨(all_cons (fun k=>by kernel_rfl) all_nil),(all_cons (by kernel_rfl) all_nil),all_nil⟩
theorem jo.ok (k:Nat):jM Tryz.prog 71 (jo.m k).s:=okW jo.iM 0 Tryz.f71 k all_nil (fun k=>all_cons (iK.ok k) (all_cons (iC.ok k) (all_cons (iL.ok k) (all_cons (iD.ok k) (all_nil))))) (all_cons ⟨Tryz.func71,by kernel_rfl⟩ all_nil) all_nil (by kernel_rfl) (by kernel_rfl) (fun a=>by kernel_rfl)
noncomputable def gq.m (k:Nat):Sm:=jN [.fm] [.pl (.int .i64)] (fun a=>gq.f k a.1.f0 a.1.f1 a.1.f2 a.1.f3)
noncomputable def gq.l1.p:PS:=⟨[nO,.one (.bp 0 0)]++nOs 27++[.one (.s .gr),.one (.i .i64),.one (.i .i64)]++nOs 9,[.box 25 [.i .i64,.i .i64,.s (.sl 41 .sp),.s .gr]]⟩
noncomputable def gq.l1.c {γ:Type} (YK:HdK γ) (K:gF→St→Option γ) (c4:Int) (c5:Int) (c6:List (List P.S41)) (c7:List P.S43):=((K .ret ((⟨[nO,nO,.one (.li .i64 50)]++nOs 38,[.box 25 [.i .i64,.i .i64,.s (.sl 41 .sp),.s .gr]]⟩:PS).mk' [.i c4,.i c5,.l (.sl 41 .sp) c6,.l .gr c7])),(K (.exit 0) ((⟨nOs 41,[.box 25 [.i .i64,.i .i64,.s (.sl 41 .sp),.s .gr]]⟩:PS).mk' [.i c4,.i c5,.l (.sl 41 .sp) c6,.l .gr c7])))
noncomputable def gq.l1.g {γ:Type} (YK:HdK γ) (k:Nat) (K:gF→St→Option γ):List Lf→Option γ
  | [.l .gr c1,.i c2,.i v3,.i c4,.i c5,.l (.sl 41 .sp) c6,.l .gr c7]=>let q:=gq.l1.c YK K c4 c5 c6 c7;gq.l1 q.1 q.2 c1 c2 c4 c5 c6 c7 k v3
  | _=>none
noncomputable def gq.l0.p:PS:=⟨[nO,.one (.bp 0 0)]++nOs 39,[.box 25 [.i .i64,.i .i64,.s (.sl 41 .sp),.s .gr]]⟩
noncomputable def gq.l0.c {γ:Type} (YK:HdK γ) (K:gF→St→Option γ)  := ((fun y1 y2 y3 y4=>K .ret ((⟨[nO,nO,.one (.li .i64 50)]++nOs 38,[.box 25 [.i .i64,.i .i64,.s (.sl 41 .sp),.s .gr]]⟩:PS).mk' [.i y1,.i y2,.l (.sl 41 .sp) y3,.l .gr y4])),(fun y1 y2 y3 y4=>K .ret ((⟨[nO,nO,.one (.li .i64 0)]++nOs 38,[.box 25 [.i .i64,.i .i64,.s (.sl 41 .sp),.s .gr]]⟩:PS).mk' [.i y1,.i y2,.l (.sl 41 .sp) y3,.l .gr y4])))
noncomputable def gq.l0.g {γ:Type} (YK:HdK γ) (k:Nat) (K:gF→St→Option γ):List Lf→Option γ
  | [.i v1,.i v2,.l (.sl 41 .sp) v3,.l .gr v4]=>let q:=gq.l0.c YK K;gq.l0 q.1 q.2 k v1 v2 v3 v4
  | _=>none
noncomputable def gq.C {γ:Type}:Ctx γ:=mkC (fun k=>mkE [(68,gu.m k),(69,fM.m k),(70,fU.m k),(71,jo.m k)] []) [(35,Tryz.f35)] [(35,mkA [] [(0,[1,29,30,31]),(1000010,[1])] [(0,[2]),(1000010,[2])] [])] [⟨0,35,0,jB [(gq.l1.p,gq.l1.g)]⟩,⟨0,35,1000010,jB [(gq.l0.p,gq.l0.g)]⟩] []
theorem gq.l1.eq {γ:Type} (YK:HdK γ) (rl:Option Nat) (K:gF→St→Option γ) (c1:List P.S43) (c2:Int) (c4:Int) (c5:Int) (c6:List (List P.S41)) (c7:List P.S43):∀ k:Nat,(fun (v3:Int)=>gq.C.lK 0 35 0 Tryz.f35 YK rl 1 k (gq.l1.p.mk' [.l .gr c1,.i c2,.i v3,.i c4,.i c5,.l (.sl 41 .sp) c6,.l .gr c7]) K)=(fun (v3:Int)=>gq.l1.g YK k K [.l .gr c1,.i c2,.i v3,.i c4,.i c5,.l (.sl 41 .sp) c6,.l .gr c7]):=iF (fun R k v3=>gq.l1T (gq.l1.c YK K c4 c5 c6 c7).1 (gq.l1.c YK K c4 c5 c6 c7).2 c1 c2 c4 c5 c6 c7 R k v3) (by kernel_rfl) (fun k=>by kernel_rfl) (fun k=>by kernel_rfl)
theorem gq.l0.eq {γ:Type} (YK:HdK γ) (rl:Option Nat) (K:gF→St→Option γ) (k:Nat) (v1:Int) (v2:Int) (v3:List (List P.S41)) (v4:List P.S43):gq.C.lK 0 35 1000010 Tryz.f35 YK rl 1 k (gq.l0.p.mk' [.i v1,.i v2,.l (.sl 41 .sp) v3,.l .gr v4]) K=gq.l0.g YK k K [.i v1,.i v2,.l (.sl 41 .sp) v3,.l .gr v4]:=by kernel_rfl
theorem gq.iM {γ:Type}:(gq.C (γ:=γ)).Ok:=⟨(all_cons (fun k=>by kernel_rfl) all_nil),(all_cons (by kernel_rfl) all_nil),all_nil⟩
theorem gq.e0 {γ:Type}:je (gq.C (γ:=γ)) ⟨0,35,0,jB [(gq.l1.p,gq.l1.g)]⟩:=gq.iM.lZ Tryz.f35 [] (by kernel_rfl) (by kernel_rfl) (by kernel_rfl) (all_cons jE (all_cons jE all_nil)) (all_cons (fun YK rl k ls K v hv=>(show gq.l1.g YK k K ls=some v→_ from fun hv=>by
  unfold gq.l1.g at hv;split at hv
  · exact (congrFun (gq.l1.eq YK rl K _ _ _ _ _ _ k) _).trans hv
  · cases hv) hv) all_nil)
theorem gq.e1 {γ:Type}:je (gq.C (γ:=γ)) ⟨0,35,1000010,jB [(gq.l0.p,gq.l0.g)]⟩:=gq.iM.lZ Tryz.f35 [0] (by kernel_rfl) (by kernel_rfl) (by kernel_rfl) (all_cons (fun _=>gq.e0) (all_cons jE all_nil)) (all_cons (fun YK rl k ls K v hv=>(show gq.l0.g YK k K ls=some v→_ from fun hv=>by
  unfold gq.l0.g at hv;split at hv
  · exact (gq.l0.eq YK rl K k _ _ _ _).trans hv
  · cases hv) hv) all_nil)
theorem gq.ok (k:Nat):jM Tryz.prog 35 (gq.m k).s:=okW gq.iM 0 Tryz.f35 k all_nil (fun k=>all_cons (gu.ok k) (all_cons (fM.ok k) (all_cons (fU.ok k) (all_cons (jo.ok k) (all_nil))))) (all_cons ⟨Tryz.func35,by kernel_rfl⟩ all_nil) (all_cons gq.e0 (all_cons gq.e1 all_nil)) (by kernel_rfl) (by kernel_rfl) (fun a=>by kernel_rfl)
noncomputable def iH.m (k:Nat):Sm:=jN [.fm] [.pl .bool] (fun a=>iH.f k a.1.f0 a.1.f1 a.1.f2 a.1.f3)
noncomputable def iH.C {γ:Type}:Ctx γ:=mkC (fun k=>mkE [(34,iG.m k),(35,gq.m k)] []) [(9,Tryz.f9)] [(9,mkA [] [] [] [])] [] []
theorem iH.iM {γ:Type}:(iH.C (γ:=γ)).Ok:=⟨(all_cons (fun k=>by kernel_rfl) all_nil),(all_cons (by kernel_rfl) all_nil),all_nil⟩
theorem iH.ok (k:Nat):jM Tryz.prog 9 (iH.m k).s:=okW iH.iM 0 Tryz.f9 k all_nil (fun k=>all_cons (iG.ok k) (all_cons (gq.ok k) (all_nil))) (all_cons ⟨Tryz.func9,by kernel_rfl⟩ all_nil) all_nil (by kernel_rfl) (by kernel_rfl) (fun a=>by kernel_rfl)
noncomputable def gZ.m (k:Nat):Sm:=jN [(.sl 41 .sp),.bool] [.pl (.int .i64)] (fun a=>gZ.f k a.1 a.2.1)
noncomputable def gZ.C {γ:Type}:Ctx γ:=mkC (fun k=>mkE [] []) [(147,Tryz.f147)] [(147,mkA [] [] [] [])] [] []
theorem gZ.iM {γ:Type}:(gZ.C (γ:=γ)).Ok:=⟨(all_cons (fun k=>by kernel_rfl) all_nil),(all_cons (by kernel_rfl) all_nil),all_nil⟩
theorem gZ.ok (k:Nat):jM Tryz.prog 147 (gZ.m k).s:=okW gZ.iM 0 Tryz.f147 k all_nil (fun k=>all_nil) (all_cons ⟨Tryz.func147,by kernel_rfl⟩ all_nil) all_nil (by kernel_rfl) (by kernel_rfl) (fun a=>by kernel_rfl)
noncomputable def iN.m (k:Nat):Sm:=jN [(.sl 41 .sp),.bool,(.int .i64)] [.pl (.sl 41 .sp),.pl .bool] (fun a=>iN.f k a.1 a.2.1 a.2.2.1)
noncomputable def iN.C {γ:Type}:Ctx γ:=mkC (fun k=>mkE [] []) [(149,Tryz.f149)] [(149,mkA [42,43] [] [] [])] [] []
theorem iN.iM {γ:Type}:(iN.C (γ:=γ)).Ok:=⟨(all_cons (fun k=>by kernel_rfl) all_nil),(all_cons (by kernel_rfl) all_nil),all_nil⟩
theorem iN.ok (k:Nat):jM Tryz.prog 149 (iN.m k).s:=okW iN.iM 0 Tryz.f149 k all_nil (fun k=>all_nil) (all_cons ⟨Tryz.func149,by kernel_rfl⟩ all_nil) all_nil (by kernel_rfl) (by kernel_rfl) (fun a=>by kernel_rfl)
noncomputable def ji.m (k:Nat):Sm:=jN [.bool,.bool] [.pl .bool] (fun a=>ji.f k a.1 a.2.1)
noncomputable def ji.C {γ:Type}:Ctx γ:=mkC (fun k=>mkE [] []) [(80,Tryz.f80)] [(80,mkA [] [] [] [])] [] []
theorem ji.iM {γ:Type}:(ji.C (γ:=γ)).Ok:=⟨(all_cons (fun k=>by kernel_rfl) all_nil),(all_cons (by kernel_rfl) all_nil),all_nil⟩
theorem ji.ok (k:Nat):jM Tryz.prog 80 (ji.m k).s:=okW ji.iM 0 Tryz.f80 k all_nil (fun k=>all_nil) (all_cons ⟨Tryz.func80,by kernel_rfl⟩ all_nil) all_nil (by kernel_rfl) (by kernel_rfl) (fun a=>by kernel_rfl)
noncomputable def gH.m (k:Nat):Sm:=jN [(.sl 41 .sp),(.sl 41 .sp)] [.own 41 .sp] (fun a=>gH.f k a.1 a.2.1)
noncomputable def gH.y0.p0:List PB:=[.box 97 [.fn 80 []],.box 28 [.o 41 .sp],.box 4 [.b],.box 3 [.i .i64],.box 28 [.s .sp],.box 28 [.s .sp],.box 163 [.fn 147 []],.lp .normal]
noncomputable def gH.y0 {γ:Type} (x:AV) (bx:List Bx) (x0:(List P.S41)→Bool→Int→(List P.S41)→(List P.S41)→Option γ):Option γ :=
  match yrd true gH.y0.p0 x bx with
  | some [.l .sp z1,.b z2,.i z3,.l .sp z4,.l .sp z5]=>(x0 z1 z2 z3 z4 z5)
  | _=>none
noncomputable def gH.y0T {γ:Type}:YdK γ:=fun K x bx=>gH.y0 x bx (fun z1 z2 z3 z4 z5=>K (j6 true) (nU gH.y0.p0 [.l .sp z1,.b z2,.i z3,.l .sp z4,.l .sp z5]).1)
theorem gH.ng {γ:Type}:uH (gH.y0T (γ:=γ)):=fun K x bx v h=>by
  unfold gH.y0T gH.y0 at h;split at h
  · rename_i hy
    obtain ⟨rfl,rfl⟩:=jZ hy;exact h
  · cases h
noncomputable def gH.l0.p:PS:=⟨[.one (.yl 7),.one (.bp 4 0),.one (.bp 5 0),.one (.bp 6 0),nO,.one (.b),.one (.b)]++nOs 53,[.box 97 [.fn 80 []],.box 28 [.o 41 .sp],.box 4 [.b],.box 3 [.i .i64],.box 28 [.s .sp],.box 28 [.s .sp],.box 163 [.fn 147 []],.lp .normal]⟩
noncomputable def gH.l0.c {γ:Type} (YK:HdK γ) (K:gF→St→Option γ)  := ((fun q0 q1 q2 q3 q4 q5 q6 q7 x0=>(YK 7).bind fun h=>h [.pt (.agg [.v (.int .i64 q0),.v (.bool q1),.v (.bool q2)])] [.box 97 [.fn 80 []],.box 28 [.ow 41 .sp q3],.box 4 [.v (.bool q4)],.box 3 [.v (.int .i64 q5)],.box 28 [.sl .sp q6],.box 28 [.sl .sp q7],.box 163 [.fn 147 []],.lp .normal] (fun x bx=>gH.y0 x bx x0)),(fun y1 y2 y3 y4 y5=>K (.exit 0) ((⟨nOs 60,[.box 97 [.fn 80 []],.box 28 [.o 41 .sp],.box 4 [.b],.box 3 [.i .i64],.box 28 [.s .sp],.box 28 [.s .sp],.box 163 [.fn 147 []],.lp .normal]⟩:PS).mk' [.l .sp y1,.b y2,.i y3,.l .sp y4,.l .sp y5])))
noncomputable def gH.l0.g {γ:Type} (YK:HdK γ) (k:Nat) (K:gF→St→Option γ):List Lf→Option γ
  | [.b v1,.b v2,.l .sp v3,.b v4,.i v5,.l .sp v6,.l .sp v7]=>let q:=gH.l0.c YK K;gH.l0 q.1 q.2 k v1 v2 v3 v4 v5 v6 v7
  | _=>none
noncomputable def gH.C {γ:Type}:Ctx γ:=mkC (fun k=>mkE [(80,ji.m k),(147,gZ.m k),(149,iN.m k)] []) [(42,Tryz.f42),(79,Tryz.f79),(118,Tryz.f118),(148,Tryz.f148)] [(42,mkA [] [] [] []),(79,mkA [36,45] [] [] []),(118,mkA [] [] [] []),(148,mkA [100014,100018] [(0,[0,1,2,3,5,6])] [(0,[])] [])] [⟨1,148,0,jB [(gH.l0.p,gH.l0.g)]⟩] [⟨1,148,7,gH.y0T⟩]
theorem gH.l0.eq {γ:Type} (YK:HdK γ) (rl:Option Nat) (K:gF→St→Option γ)  : ∀ k:Nat,(fun (v1:Bool) (v2:Bool) (v3:List P.S41) (v4:Bool) (v5:Int) (v6:List P.S41) (v7:List P.S41)=>gH.C.lK 1 148 0 Tryz.f148 YK rl 8 k (gH.l0.p.mk' [.b v1,.b v2,.l .sp v3,.b v4,.i v5,.l .sp v6,.l .sp v7]) K)=(fun (v1:Bool) (v2:Bool) (v3:List P.S41) (v4:Bool) (v5:Int) (v6:List P.S41) (v7:List P.S41)=>gH.l0.g YK k K [.b v1,.b v2,.l .sp v3,.b v4,.i v5,.l .sp v6,.l .sp v7]):=iF (fun R k v1 v2 v3 v4 v5 v6 v7=>gH.l0T (gH.l0.c YK K).1 (gH.l0.c YK K).2 R k v1 v2 v3 v4 v5 v6 v7) (by kernel_rfl) (fun k=>by kernel_rfl) (fun k=>by kernel_rfl)
theorem gH.iM {γ:Type}:(gH.C (γ:=γ)).Ok:=⟨(all_cons (fun k=>by kernel_rfl) (all_cons (fun k=>by kernel_rfl) (all_cons (fun k=>by kernel_rfl) (all_cons (fun k=>by kernel_rfl) all_nil)))),(all_cons (by kernel_rfl) (all_cons (by kernel_rfl) (all_cons (by kernel_rfl) (all_cons (by kernel_rfl) all_nil)))),(all_cons gH.ng all_nil)⟩
theorem gH.e0 {γ:Type}:je (gH.C (γ:=γ)) ⟨1,148,0,jB [(gH.l0.p,gH.l0.g)]⟩:=gH.iM.lZ Tryz.f148 [] (by kernel_rfl) (by kernel_rfl) (by kernel_rfl) (all_cons jE all_nil) (all_cons (fun YK rl k ls K v hv=>(show gH.l0.g YK k K ls=some v→_ from fun hv=>by
  unfold gH.l0.g at hv;split at hv
  · exact (congrFun (congrFun (congrFun (congrFun (congrFun (congrFun (congrFun (gH.l0.eq YK rl K k) _) _) _) _) _) _) _).trans hv
  · cases hv) hv) all_nil)
theorem gH.ok (k:Nat):jM Tryz.prog 42 (gH.m k).s:=okW gH.iM 3 Tryz.f42 k all_nil (fun k=>all_cons (ji.ok k) (all_cons (gZ.ok k) (all_cons (iN.ok k) (all_nil)))) (all_cons ⟨Tryz.func42,by kernel_rfl⟩ (all_cons ⟨Tryz.func79,by kernel_rfl⟩ (all_cons ⟨Tryz.func118,by kernel_rfl⟩ (all_cons ⟨Tryz.func148,by kernel_rfl⟩ all_nil)))) (all_cons gH.e0 all_nil) (by kernel_rfl) (by kernel_rfl) (fun a=>by kernel_rfl)
noncomputable def iB.m (k:Nat):Sm:=jN [(.sl 41 .sp),(.sl 41 .sp)] [.pl .bool] (fun a=>iB.f k a.1 a.2.1)
noncomputable def iB.C {γ:Type}:Ctx γ:=mkC (fun k=>mkE [(42,gH.m k)] []) [(14,Tryz.f14)] [(14,mkA [] [] [] [])] [] []
theorem iB.iM {γ:Type}:(iB.C (γ:=γ)).Ok:=⟨(all_cons (fun k=>by kernel_rfl) all_nil),(all_cons (by kernel_rfl) all_nil),all_nil⟩
theorem iB.ok (k:Nat):jM Tryz.prog 14 (iB.m k).s:=okW iB.iM 0 Tryz.f14 k all_nil (fun k=>all_cons (gH.ok k) (all_nil)) (all_cons ⟨Tryz.func14,by kernel_rfl⟩ all_nil) all_nil (by kernel_rfl) (by kernel_rfl) (fun a=>by kernel_rfl)
noncomputable def iA.m (k:Nat):Sm:=jN [(.sl 41 .sp)] [.pl .sp,.pl .bool] (fun a=>iA.f k a.1)
noncomputable def iA.C {γ:Type}:Ctx γ:=mkC (fun k=>mkE [] []) [(52,Tryz.f52)] [(52,mkA [] [] [] [])] [] []
theorem iA.iM {γ:Type}:(iA.C (γ:=γ)).Ok:=⟨(all_cons (fun k=>by kernel_rfl) all_nil),(all_cons (by kernel_rfl) all_nil),all_nil⟩
theorem iA.ok (k:Nat):jM Tryz.prog 52 (iA.m k).s:=okW iA.iM 0 Tryz.f52 k all_nil (fun k=>all_nil) (all_cons ⟨Tryz.func52,by kernel_rfl⟩ all_nil) all_nil (by kernel_rfl) (by kernel_rfl) (fun a=>by kernel_rfl)
noncomputable def jU.m (k:Nat):Sm:=jN [.sp,(.int .i64),(.int .i64)] [.pl (.int .i64)] (fun a=>jU.f k a.1.f0 a.1.f1 a.2.1 a.2.2.1)
noncomputable def jU.C {γ:Type}:Ctx γ:=mkC (fun k=>mkE [(46,iJ.m k)] []) [(125,Tryz.f125)] [(125,mkA [] [] [] [])] [] []
theorem jU.iM {γ:Type}:(jU.C (γ:=γ)).Ok:=⟨(all_cons (fun k=>by kernel_rfl) all_nil),(all_cons (by kernel_rfl) all_nil),all_nil⟩
theorem jU.ok (k:Nat):jM Tryz.prog 125 (jU.m k).s:=okW jU.iM 0 Tryz.f125 k all_nil (fun k=>all_cons (iJ.ok k) (all_nil)) (all_cons ⟨Tryz.func125,by kernel_rfl⟩ all_nil) all_nil (by kernel_rfl) (by kernel_rfl) (fun a=>by kernel_rfl)
noncomputable def jG.m (k:Nat):Sm:=jN [.sp,(.int .i64)] [.pl .bool] (fun a=>jG.f k a.1.f0 a.1.f1 a.2.1)
noncomputable def jG.C {γ:Type}:Ctx γ:=mkC (fun k=>mkE [] []) [(126,Tryz.f126)] [(126,mkA [] [] [] [])] [] []
theorem jG.iM {γ:Type}:(jG.C (γ:=γ)).Ok:=⟨(all_cons (fun k=>by kernel_rfl) all_nil),(all_cons (by kernel_rfl) all_nil),all_nil⟩
theorem jG.ok (k:Nat):jM Tryz.prog 126 (jG.m k).s:=okW jG.iM 0 Tryz.f126 k all_nil (fun k=>all_nil) (all_cons ⟨Tryz.func126,by kernel_rfl⟩ all_nil) all_nil (by kernel_rfl) (by kernel_rfl) (fun a=>by kernel_rfl)
noncomputable def lI.m (k:Nat):Sm:=jN [] [.fx [.v (.int .i64 1),.fn 60 [],.fn 125 [],.fn 126 []]] (fun a=>lI.f k)
noncomputable def lI.C {γ:Type}:Ctx γ:=mkC (fun k=>mkE [] []) [(87,Tryz.f87)] [(87,mkA [] [] [] [])] [] []
theorem lI.iM {γ:Type}:(lI.C (γ:=γ)).Ok:=⟨(all_cons (fun k=>by kernel_rfl) all_nil),(all_cons (by kernel_rfl) all_nil),all_nil⟩
theorem lI.ok (k:Nat):jM Tryz.prog 87 (lI.m k).s:=okW lI.iM 0 Tryz.f87 k all_nil (fun k=>all_nil) (all_cons ⟨Tryz.func87,by kernel_rfl⟩ all_nil) all_nil (by kernel_rfl) (by kernel_rfl) (fun a=>by kernel_rfl)
end Go.Proofs.YtongeknogcboiaaGreat.R
