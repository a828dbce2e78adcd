/- Lemmas for laws of chapter 7: what the functions that they reach compute. No condition of its own. -/
import Derived.Test.YtongeknogcboiaaGreatYM9
import Derived.Test.YtongeknogcboiaaGreatYM11
namespace Go.Proofs.YtongeknogcboiaaGreat.R
open M Go.RowKit Go.Proofs.YtongeknogcboiaaGreatW.fK Go.Proofs.YtongeknogcboiaaGreatW.gN Go.Proofs.YtongeknogcboiaaGreatW.iC
set_option linter.unusedVariables false
noncomputable def gM.m (k:Nat):Sm:=jM [.fm] [.pl (.int .i64)] (fun a=>gM.f k a.1.f0 a.1.f1 a.1.f2 a.1.f3)
noncomputable def gM.l0.p:PS:=⟨[nO,.one (.bp 0 0),nO,.one (.i .i64)]++nOs 5++[.one (.s (.sl 41 .sp)),.one (.i .i64),.one (.i .i64)]++nOs 22,[.box 25 [.i .i64,.i .i64,.s (.sl 41 .sp),.s .gr]]⟩
noncomputable def gM.l0.c {γ:Type} (YK:HdK γ) (K:gu→St→Option γ) (c5:Int) (c6:Int) (c7:List (List P.S41)) (c8:List P.S43):=(fun y1=>K (.exit 0) ((⟨[nO,.one (.bp 0 0),nO,.one (.i .i64)]++nOs 30,[.box 25 [.i .i64,.i .i64,.s (.sl 41 .sp),.s .gr]]⟩:PS).mk' [.i y1,.i c5,.i c6,.l (.sl 41 .sp) c7,.l .gr c8]))
noncomputable def gM.l0.g {γ:Type} (YK:HdK γ) (k:Nat) (K:gu→St→Option γ):List Lf→Option γ
  | [.i v1,.l (.sl 41 .sp) c2,.i c3,.i v4,.i c5,.i c6,.l (.sl 41 .sp) c7,.l .gr c8]=>gM.l0 (gM.l0.c YK K c5 c6 c7 c8) c2 c3 k v1 v4
  | _=>none
noncomputable def gM.l1.p:PS:=⟨nOs 3++[.one (.i .i64)]++nOs 17++[.one (.s .gr),.one (.i .i64),.one (.i .i64)]++nOs 10,[.box 25 [.i .i64,.i .i64,.s (.sl 41 .sp),.s .gr]]⟩
noncomputable def gM.l1.c {γ:Type} (YK:HdK γ) (K:gu→St→Option γ) (c5:Int) (c6:Int) (c7:List (List P.S41)) (c8:List P.S43):=(fun y1=>K (.exit 2) ((⟨nOs 3++[.one (.i .i64)]++nOs 30,[.box 25 [.i .i64,.i .i64,.s (.sl 41 .sp),.s .gr]]⟩:PS).mk' [.i y1,.i c5,.i c6,.l (.sl 41 .sp) c7,.l .gr c8]))
noncomputable def gM.l1.g {γ:Type} (YK:HdK γ) (k:Nat) (K:gu→St→Option γ):List Lf→Option γ
  | [.i v1,.l .gr c2,.i c3,.i v4,.i c5,.i c6,.l (.sl 41 .sp) c7,.l .gr c8]=>gM.l1 (gM.l1.c YK K c5 c6 c7 c8) c2 c3 k v1 v4
  | _=>none
noncomputable def gM.C {γ:Type}:Ctx γ:=mkC (fun k=>mkE [] []) [(68,Tryz.f68)] [(68,mkA [] [(0,[1,3,9,10,11]),(2,[3,21,22,23])] [(0,[1,3]),(2,[3])] [])] [⟨0,68,0,jy [(gM.l0.p,gM.l0.g)]⟩,⟨0,68,2,jy [(gM.l1.p,gM.l1.g)]⟩] []
theorem gM.l0.eq {γ:Type} (YK:HdK γ) (rl:Option Nat) (K:gu→St→Option γ) (c2:List (List P.S41)) (c3:Int) (c5:Int) (c6:Int) (c7:List (List P.S41)) (c8:List P.S43):∀ k:Nat,(fun (v1:Int) (v4:Int)=>gM.C.lK 0 68 0 Tryz.f68 YK rl 1 k (gM.l0.p.mk' [.i v1,.l (.sl 41 .sp) c2,.i c3,.i v4,.i c5,.i c6,.l (.sl 41 .sp) c7,.l .gr c8]) K)=(fun (v1:Int) (v4:Int)=>gM.l0.g YK k K [.i v1,.l (.sl 41 .sp) c2,.i c3,.i v4,.i c5,.i c6,.l (.sl 41 .sp) c7,.l .gr c8]):=iD (fun R k v1 v4=>gM.l0T (gM.l0.c YK K c5 c6 c7 c8) c2 c3 R k v1 v4) (by kernel_rfl) (fun k=>by kernel_rfl) (fun k=>by kernel_rfl)
theorem gM.l1.eq {γ:Type} (YK:HdK γ) (rl:Option Nat) (K:gu→St→Option γ) (c2:List P.S43) (c3:Int) (c5:Int) (c6:Int) (c7:List (List P.S41)) (c8:List P.S43):∀ k:Nat,(fun (v1:Int) (v4:Int)=>gM.C.lK 0 68 2 Tryz.f68 YK rl 1 k (gM.l1.p.mk' [.i v1,.l .gr c2,.i c3,.i v4,.i c5,.i c6,.l (.sl 41 .sp) c7,.l .gr c8]) K)=(fun (v1:Int) (v4:Int)=>gM.l1.g YK k K [.i v1,.l .gr c2,.i c3,.i v4,.i c5,.i c6,.l (.sl 41 .sp) c7,.l .gr c8]):=iD (fun R k v1 v4=>gM.l1T (gM.l1.c YK K c5 c6 c7 c8) c2 c3 R k v1 v4) (by kernel_rfl) (fun k=>by kernel_rfl) (fun k=>by kernel_rfl)
theorem gM.iN {γ:Type}:(gM.C (γ:=γ)).Ok:=⟨(all_cons (fun k=>by kernel_rfl) all_nil),(all_cons (by kernel_rfl) all_nil),all_nil⟩
theorem gM.e0 {γ:Type}:jc (gM.C (γ:=γ)) ⟨0,68,0,jy [(gM.l0.p,gM.l0.g)]⟩:=gM.iN.lS Tryz.f68 [] (by kernel_rfl) (by kernel_rfl) (by kernel_rfl) (all_cons jC (all_cons jC all_nil)) (all_cons (fun YK rl k ls K v hv=>(show gM.l0.g YK k K ls=some v→_ from fun hv=>by
  unfold gM.l0.g at hv;split at hv
  · exact (congrFun (congrFun (gM.l0.eq YK rl K _ _ _ _ _ _ k) _) _).trans hv
  · cases hv) hv) all_nil)
theorem gM.e1 {γ:Type}:jc (gM.C (γ:=γ)) ⟨0,68,2,jy [(gM.l1.p,gM.l1.g)]⟩:=gM.iN.lS Tryz.f68 [] (by kernel_rfl) (by kernel_rfl) (by kernel_rfl) (all_cons jC (all_cons jC all_nil)) (all_cons (fun YK rl k ls K v hv=>(show gM.l1.g YK k K ls=some v→_ from fun hv=>by
  unfold gM.l1.g at hv;split at hv
  · exact (congrFun (congrFun (gM.l1.eq YK rl K _ _ _ _ _ _ k) _) _).trans hv
  · cases hv) hv) all_nil)
theorem gM.ok (k:Nat):jK Tryz.prog 68 (gM.m k).s:=okW gM.iN 0 Tryz.f68 k all_nil (fun k=>all_nil) (all_cons ⟨Tryz.func68,by kernel_rfl⟩ all_nil) (all_cons gM.e0 (all_cons gM.e1 all_nil)) (by kernel_rfl) (by kernel_rfl) (fun a=>by kernel_rfl)
noncomputable def iQ.m (k:Nat):Sm:=jM [(.int .i64)] [.pl .bool] (fun a=>iQ.f k a.1)
noncomputable def iQ.C {γ:Type}:Ctx γ:=mkC (fun k=>mkE [] []) [(37,Tryz.f37)] [(37,mkA [] [] [] [])] [] []
theorem iQ.iN {γ:Type}:(iQ.C (γ:=γ)).Ok:=⟨(all_cons (fun k=>by kernel_rfl) all_nil),(all_cons (by kernel_rfl) all_nil),all_nil⟩
theorem iQ.ok (k:Nat):jK Tryz.prog 37 (iQ.m k).s:=okW iQ.iN 0 Tryz.f37 k all_nil (fun k=>all_nil) (all_cons ⟨Tryz.func37,by kernel_rfl⟩ all_nil) all_nil (by kernel_rfl) (by kernel_rfl) (fun a=>by kernel_rfl)
noncomputable def iX.m (k:Nat):Sm:=jM [(.int .i64)] [.pl .bool] (fun a=>iX.f k a.1)
noncomputable def iX.C {γ:Type}:Ctx γ:=mkC (fun k=>mkE [] []) [(75,Tryz.f75)] [(75,mkA [] [] [] [])] [] []
theorem iX.iN {γ:Type}:(iX.C (γ:=γ)).Ok:=⟨(all_cons (fun k=>by kernel_rfl) all_nil),(all_cons (by kernel_rfl) all_nil),all_nil⟩
theorem iX.ok (k:Nat):jK Tryz.prog 75 (iX.m k).s:=okW iX.iN 0 Tryz.f75 k all_nil (fun k=>all_nil) (all_cons ⟨Tryz.func75,by kernel_rfl⟩ all_nil) all_nil (by kernel_rfl) (by kernel_rfl) (fun a=>by kernel_rfl)
noncomputable def gU.m (k:Nat):Sm:=jM [(.sl 41 .sp)] [.pl .bool] (fun a=>gU.f k a.1)
noncomputable def gU.l0.p:PS:=⟨[.one (.s .sp)]++nOs 4++[.one (.s .sp),.one (.i .i64),.one (.i .i64)]++nOs 38,[]⟩
noncomputable def gU.l0.c {γ:Type} (YK:HdK γ) (K:gu→St→Option γ)  := ((K .ret ((⟨[nO,nO,.one (.lb false)]++nOs 43,[]⟩:PS).mk' [])),(K (.exit 0) ((⟨nOs 46,[]⟩:PS).mk' [])))
noncomputable def gU.l0.g {γ:Type} (YK:HdK γ) (k:Nat) (K:gu→St→Option γ):List Lf→Option γ
  | [.l .sp c1,.l .sp c2,.i c3,.i v4]=>let q:=gU.l0.c YK K;gU.l0 q.1 q.2 c1 c2 c3 k v4
  | _=>none
noncomputable def gU.C {γ:Type}:Ctx γ:=mkC (fun k=>mkE [(75,iX.m k)] []) [(108,Tryz.f108)] [(108,mkA [] [(0,[0,5,6,7])] [(0,[2])] [])] [⟨0,108,0,jy [(gU.l0.p,gU.l0.g)]⟩] []
theorem gU.l0.eq {γ:Type} (YK:HdK γ) (rl:Option Nat) (K:gu→St→Option γ) (c1:List P.S41) (c2:List P.S41) (c3:Int):∀ k:Nat,(fun (v4:Int)=>gU.C.lK 0 108 0 Tryz.f108 YK rl 0 k (gU.l0.p.mk' [.l .sp c1,.l .sp c2,.i c3,.i v4]) K)=(fun (v4:Int)=>gU.l0.g YK k K [.l .sp c1,.l .sp c2,.i c3,.i v4]):=iD (fun R k v4=>gU.l0T (gU.l0.c YK K).1 (gU.l0.c YK K).2 c1 c2 c3 R k v4) (by kernel_rfl) (fun k=>by kernel_rfl) (fun k=>by kernel_rfl)
theorem gU.iN {γ:Type}:(gU.C (γ:=γ)).Ok:=⟨(all_cons (fun k=>by kernel_rfl) all_nil),(all_cons (by kernel_rfl) all_nil),all_nil⟩
theorem gU.e0 {γ:Type}:jc (gU.C (γ:=γ)) ⟨0,108,0,jy [(gU.l0.p,gU.l0.g)]⟩:=gU.iN.lS Tryz.f108 [] (by kernel_rfl) (by kernel_rfl) (by kernel_rfl) (all_cons jC all_nil) (all_cons (fun YK rl k ls K v hv=>(show gU.l0.g YK k K ls=some v→_ from fun hv=>by
  unfold gU.l0.g at hv;split at hv
  · exact (congrFun (gU.l0.eq YK rl K _ _ _ k) _).trans hv
  · cases hv) hv) all_nil)
theorem gU.ok (k:Nat):jK Tryz.prog 108 (gU.m k).s:=okW gU.iN 0 Tryz.f108 k all_nil (fun k=>all_cons (iX.ok k) (all_nil)) (all_cons ⟨Tryz.func108,by kernel_rfl⟩ all_nil) (all_cons gU.e0 all_nil) (by kernel_rfl) (by kernel_rfl) (fun a=>by kernel_rfl)
noncomputable def fO.m (k:Nat):Sm:=jM [.fm] [.pl .bool] (fun a=>fO.f k a.1.f0 a.1.f1 a.1.f2 a.1.f3)
noncomputable def fO.l1.p:PS:=⟨[nO,.one (.bp 0 0)]++nOs 31++[.one (.s (.sl 41 .sp)),.one (.i .i64),.one (.i .i64)]++nOs 42,[.box 25 [.i .i64,.i .i64,.s (.sl 41 .sp),.s .gr]]⟩
noncomputable def fO.l1.c {γ:Type} (YK:HdK γ) (K:gu→St→Option γ) (c4:Int) (c5:Int) (c6:List (List P.S41)) (c7:List P.S43):=((K .ret ((⟨[nO,.one (.bp 0 0),.one (.lb false)]++nOs 75,[.box 25 [.i .i64,.i .i64,.s (.sl 41 .sp),.s .gr]]⟩:PS).mk' [.i c4,.i c5,.l (.sl 41 .sp) c6,.l .gr c7])),(K (.exit 0) ((⟨[nO,.one (.bp 0 0)]++nOs 76,[.box 25 [.i .i64,.i .i64,.s (.sl 41 .sp),.s .gr]]⟩:PS).mk' [.i c4,.i c5,.l (.sl 41 .sp) c6,.l .gr c7])))
noncomputable def fO.l1.g {γ:Type} (YK:HdK γ) (k:Nat) (K:gu→St→Option γ):List Lf→Option γ
  | [.l (.sl 41 .sp) c1,.i c2,.i v3,.i c4,.i c5,.l (.sl 41 .sp) c6,.l .gr c7]=>let q:=fO.l1.c YK K c4 c5 c6 c7;fO.l1 q.1 q.2 c1 c2 k v3
  | _=>none
noncomputable def fO.l2.p:PS:=⟨[nO,.one (.bp 0 0)]++nOs 42++[.one (.s .gr),.one (.i .i64),.one (.i .i64)]++nOs 31,[.box 25 [.i .i64,.i .i64,.s (.sl 41 .sp),.s .gr]]⟩
noncomputable def fO.l2.c {γ:Type} (YK:HdK γ) (K:gu→St→Option γ) (c4:Int) (c5:Int) (c6:List (List P.S41)) (c7:List P.S43):=((K .ret ((⟨[nO,nO,.one (.lb false)]++nOs 75,[.box 25 [.i .i64,.i .i64,.s (.sl 41 .sp),.s .gr]]⟩:PS).mk' [.i c4,.i c5,.l (.sl 41 .sp) c6,.l .gr c7])),(K (.exit 2) ((⟨nOs 78,[.box 25 [.i .i64,.i .i64,.s (.sl 41 .sp),.s .gr]]⟩:PS).mk' [.i c4,.i c5,.l (.sl 41 .sp) c6,.l .gr c7])))
noncomputable def fO.l2.g {γ:Type} (YK:HdK γ) (k:Nat) (K:gu→St→Option γ):List Lf→Option γ
  | [.l .gr c1,.i c2,.i v3,.i c4,.i c5,.l (.sl 41 .sp) c6,.l .gr c7]=>let q:=fO.l2.c YK K c4 c5 c6 c7;fO.l2 q.1 q.2 c1 c2 c7 k v3
  | _=>none
noncomputable def fO.l0.p:PS:=⟨[nO,.one (.bp 0 0)]++nOs 76,[.box 25 [.i .i64,.i .i64,.s (.sl 41 .sp),.s .gr]]⟩
noncomputable def fO.l0.c {γ:Type} (YK:HdK γ) (K:gu→St→Option γ)  := ((fun y1 y2 y3 y4=>K .ret ((⟨[nO,nO,.one (.lb false)]++nOs 75,[.box 25 [.i .i64,.i .i64,.s (.sl 41 .sp),.s .gr]]⟩:PS).mk' [.i y1,.i y2,.l (.sl 41 .sp) y3,.l .gr y4])),(fun y1 y2 y3 y4=>K .ret ((⟨[nO,nO,.one (.lb true)]++nOs 75,[.box 25 [.i .i64,.i .i64,.s (.sl 41 .sp),.s .gr]]⟩:PS).mk' [.i y1,.i y2,.l (.sl 41 .sp) y3,.l .gr y4])))
noncomputable def fO.l0.g {γ:Type} (YK:HdK γ) (k:Nat) (K:gu→St→Option γ):List Lf→Option γ
  | [.i v1,.i v2,.l (.sl 41 .sp) v3,.l .gr v4]=>let q:=fO.l0.c YK K;fO.l0 q.1 q.2 k v1 v2 v3 v4
  | _=>none
noncomputable def fO.C {γ:Type}:Ctx γ:=mkC (fun k=>mkE [(37,iQ.m k),(108,gU.m k)] []) [(69,Tryz.f69)] [(69,mkA [] [(0,[1,33,34,35]),(2,[1,44,45,46]),(1000010,[1])] [(0,[1,2]),(2,[2]),(1000010,[2])] [])] [⟨0,69,0,jy [(fO.l1.p,fO.l1.g)]⟩,⟨0,69,2,jy [(fO.l2.p,fO.l2.g)]⟩,⟨0,69,1000010,jy [(fO.l0.p,fO.l0.g)]⟩] []
theorem fO.l1.eq {γ:Type} (YK:HdK γ) (rl:Option Nat) (K:gu→St→Option γ) (c1:List (List P.S41)) (c2:Int) (c4:Int) (c5:Int) (c6:List (List P.S41)) (c7:List P.S43):∀ k:Nat,(fun (v3:Int)=>fO.C.lK 0 69 0 Tryz.f69 YK rl 1 k (fO.l1.p.mk' [.l (.sl 41 .sp) c1,.i c2,.i v3,.i c4,.i c5,.l (.sl 41 .sp) c6,.l .gr c7]) K)=(fun (v3:Int)=>fO.l1.g YK k K [.l (.sl 41 .sp) c1,.i c2,.i v3,.i c4,.i c5,.l (.sl 41 .sp) c6,.l .gr c7]):=iD (fun R k v3=>fO.l1T (fO.l1.c YK K c4 c5 c6 c7).1 (fO.l1.c YK K c4 c5 c6 c7).2 c1 c2 R k v3) (by kernel_rfl) (fun k=>by kernel_rfl) (fun k=>by kernel_rfl)
theorem fO.l2.eq {γ:Type} (YK:HdK γ) (rl:Option Nat) (K:gu→St→Option γ) (c1:List P.S43) (c2:Int) (c4:Int) (c5:Int) (c6:List (List P.S41)) (c7:List P.S43):∀ k:Nat,(fun (v3:Int)=>fO.C.lK 0 69 2 Tryz.f69 YK rl 1 k (fO.l2.p.mk' [.l .gr c1,.i c2,.i v3,.i c4,.i c5,.l (.sl 41 .sp) c6,.l .gr c7]) K)=(fun (v3:Int)=>fO.l2.g YK k K [.l .gr c1,.i c2,.i v3,.i c4,.i c5,.l (.sl 41 .sp) c6,.l .gr c7]):=iD (fun R k v3=>fO.l2T (fO.l2.c YK K c4 c5 c6 c7).1 (fO.l2.c YK K c4 c5 c6 c7).2 c1 c2 c7 R k v3) (by kernel_rfl) (fun k=>by kernel_rfl) (fun k=>by kernel_rfl)
theorem fO.l0.eq {γ:Type} (YK:HdK γ) (rl:Option Nat) (K:gu→St→Option γ) (k:Nat) (v1:Int) (v2:Int) (v3:List (List P.S41)) (v4:List P.S43):fO.C.lK 0 69 1000010 Tryz.f69 YK rl 1 k (fO.l0.p.mk' [.i v1,.i v2,.l (.sl 41 .sp) v3,.l .gr v4]) K=fO.l0.g YK k K [.i v1,.i v2,.l (.sl 41 .sp) v3,.l .gr v4]:=by kernel_rfl
theorem fO.iN {γ:Type}:(fO.C (γ:=γ)).Ok:=⟨(all_cons (fun k=>by kernel_rfl) all_nil),(all_cons (by kernel_rfl) all_nil),all_nil⟩
theorem fO.e0 {γ:Type}:jc (fO.C (γ:=γ)) ⟨0,69,0,jy [(fO.l1.p,fO.l1.g)]⟩:=fO.iN.lS Tryz.f69 [] (by kernel_rfl) (by kernel_rfl) (by kernel_rfl) (all_cons jC (all_cons jC (all_cons jC all_nil))) (all_cons (fun YK rl k ls K v hv=>(show fO.l1.g YK k K ls=some v→_ from fun hv=>by
  unfold fO.l1.g at hv;split at hv
  · exact (congrFun (fO.l1.eq YK rl K _ _ _ _ _ _ k) _).trans hv
  · cases hv) hv) all_nil)
theorem fO.e1 {γ:Type}:jc (fO.C (γ:=γ)) ⟨0,69,2,jy [(fO.l2.p,fO.l2.g)]⟩:=fO.iN.lS Tryz.f69 [] (by kernel_rfl) (by kernel_rfl) (by kernel_rfl) (all_cons jC (all_cons jC (all_cons jC all_nil))) (all_cons (fun YK rl k ls K v hv=>(show fO.l2.g YK k K ls=some v→_ from fun hv=>by
  unfold fO.l2.g at hv;split at hv
  · exact (congrFun (fO.l2.eq YK rl K _ _ _ _ _ _ k) _).trans hv
  · cases hv) hv) all_nil)
theorem fO.e2 {γ:Type}:jc (fO.C (γ:=γ)) ⟨0,69,1000010,jy [(fO.l0.p,fO.l0.g)]⟩:=fO.iN.lS Tryz.f69 [0,2] (by kernel_rfl) (by kernel_rfl) (by kernel_rfl) (all_cons (fun _=>fO.e0) (all_cons (fun _=>fO.e1) (all_cons jC all_nil))) (all_cons (fun YK rl k ls K v hv=>(show fO.l0.g YK k K ls=some v→_ from fun hv=>by
  unfold fO.l0.g at hv;split at hv
  · exact (fO.l0.eq YK rl K k _ _ _ _).trans hv
  · cases hv) hv) all_nil)
theorem fO.ok (k:Nat):jK Tryz.prog 69 (fO.m k).s:=okW fO.iN 0 Tryz.f69 k all_nil (fun k=>all_cons (iQ.ok k) (all_cons (gU.ok k) (all_nil))) (all_cons ⟨Tryz.func69,by kernel_rfl⟩ all_nil) (all_cons fO.e0 (all_cons fO.e1 (all_cons fO.e2 all_nil))) (by kernel_rfl) (by kernel_rfl) (fun a=>by kernel_rfl)
noncomputable def gy.m (k:Nat):Sm:=jM [.fm] [.pl .bool] (fun a=>gy.f k a.1.f0 a.1.f1 a.1.f2 a.1.f3)
noncomputable def gy.l0.p:PS:=⟨[nO,.one (.bp 0 0),nO,.one (.o 28 (.sl 41 .sp))]++nOs 7++[.one (.s (.sl 41 .sp)),.one (.i .i64),.one (.i .i64)]++nOs 48,[.box 25 [.i .i64,.i .i64,.s (.sl 41 .sp),.s .gr]]⟩
noncomputable def gy.l0.c {γ:Type} (YK:HdK γ) (K:gu→St→Option γ) (c5:Int) (c6:Int) (c7:List (List P.S41)) (c8:List P.S43):=(fun y1=>K (.exit 0) ((⟨[nO,.one (.bp 0 0),nO,.one (.o 28 (.sl 41 .sp))]++nOs 58,[.box 25 [.i .i64,.i .i64,.s (.sl 41 .sp),.s .gr]]⟩:PS).mk' [.l (.sl 41 .sp) y1,.i c5,.i c6,.l (.sl 41 .sp) c7,.l .gr c8]))
noncomputable def gy.l0.g {γ:Type} (YK:HdK γ) (k:Nat) (K:gu→St→Option γ):List Lf→Option γ
  | [.l (.sl 41 .sp) v1,.l (.sl 41 .sp) c2,.i c3,.i v4,.i c5,.i c6,.l (.sl 41 .sp) c7,.l .gr c8]=>gy.l0 (gy.l0.c YK K c5 c6 c7 c8) c2 c3 k v1 v4
  | _=>none
noncomputable def gy.l1.p:PS:=⟨[nO,.one (.bp 0 0),nO,.one (.o 28 (.sl 41 .sp))]++nOs 21++[.one (.s (.sl 41 .sp)),.one (.i .i64),.one (.i .i64)]++nOs 34,[.box 25 [.i .i64,.i .i64,.s (.sl 41 .sp),.s .gr]]⟩
noncomputable def gy.l1.c {γ:Type} (YK:HdK γ) (K:gu→St→Option γ) (c5:Int) (c6:Int) (c7:List (List P.S41)) (c8:List P.S43):=((K .ret ((⟨[nO,nO,.one (.lb false)]++nOs 59,[.box 25 [.i .i64,.i .i64,.s (.sl 41 .sp),.s .gr]]⟩:PS).mk' [.i c5,.i c6,.l (.sl 41 .sp) c7,.l .gr c8])),(K (.exit 2) ((⟨nOs 62,[.box 25 [.i .i64,.i .i64,.s (.sl 41 .sp),.s .gr]]⟩:PS).mk' [.i c5,.i c6,.l (.sl 41 .sp) c7,.l .gr c8])))
noncomputable def gy.l1.g {γ:Type} (YK:HdK γ) (k:Nat) (K:gu→St→Option γ):List Lf→Option γ
  | [.l (.sl 41 .sp) c1,.l (.sl 41 .sp) c2,.i c3,.i v4,.i c5,.i c6,.l (.sl 41 .sp) c7,.l .gr c8]=>let q:=gy.l1.c YK K c5 c6 c7 c8;gy.l1 q.1 q.2 c1 c2 c3 c5 k v4
  | _=>none
noncomputable def gy.C {γ:Type}:Ctx γ:=mkC (fun k=>mkE [] []) [(70,Tryz.f70)] [(70,mkA [20] [(0,[1,3,11,12,13]),(2,[1,3,25,26,27])] [(0,[1,3]),(2,[2])] [])] [⟨0,70,0,jy [(gy.l0.p,gy.l0.g)]⟩,⟨0,70,2,jy [(gy.l1.p,gy.l1.g)]⟩] []
theorem gy.l0.eq {γ:Type} (YK:HdK γ) (rl:Option Nat) (K:gu→St→Option γ) (c2:List (List P.S41)) (c3:Int) (c5:Int) (c6:Int) (c7:List (List P.S41)) (c8:List P.S43):∀ k:Nat,(fun (v1:List (List P.S41)) (v4:Int)=>gy.C.lK 0 70 0 Tryz.f70 YK rl 1 k (gy.l0.p.mk' [.l (.sl 41 .sp) v1,.l (.sl 41 .sp) c2,.i c3,.i v4,.i c5,.i c6,.l (.sl 41 .sp) c7,.l .gr c8]) K)=(fun (v1:List (List P.S41)) (v4:Int)=>gy.l0.g YK k K [.l (.sl 41 .sp) v1,.l (.sl 41 .sp) c2,.i c3,.i v4,.i c5,.i c6,.l (.sl 41 .sp) c7,.l .gr c8]):=iD (fun R k v1 v4=>gy.l0T (gy.l0.c YK K c5 c6 c7 c8) c2 c3 R k v1 v4) (by kernel_rfl) (fun k=>by kernel_rfl) (fun k=>by kernel_rfl)
theorem gy.l1.eq {γ:Type} (YK:HdK γ) (rl:Option Nat) (K:gu→St→Option γ) (c1:List (List P.S41)) (c2:List (List P.S41)) (c3:Int) (c5:Int) (c6:Int) (c7:List (List P.S41)) (c8:List P.S43):∀ k:Nat,(fun (v4:Int)=>gy.C.lK 0 70 2 Tryz.f70 YK rl 1 k (gy.l1.p.mk' [.l (.sl 41 .sp) c1,.l (.sl 41 .sp) c2,.i c3,.i v4,.i c5,.i c6,.l (.sl 41 .sp) c7,.l .gr c8]) K)=(fun (v4:Int)=>gy.l1.g YK k K [.l (.sl 41 .sp) c1,.l (.sl 41 .sp) c2,.i c3,.i v4,.i c5,.i c6,.l (.sl 41 .sp) c7,.l .gr c8]):=iD (fun R k v4=>gy.l1T (gy.l1.c YK K c5 c6 c7 c8).1 (gy.l1.c YK K c5 c6 c7 c8).2 c1 c2 c3 c5 R k v4) (by kernel_rfl) (fun k=>by kernel_rfl) (fun k=>by kernel_rfl)
theorem gy.iN {γ:Type}:(gy.C (γ:=γ)).Ok:=⟨(all_cons (fun k=>by kernel_rfl) all_nil),(all_cons (by kernel_rfl) all_nil),all_nil⟩
theorem gy.e0 {γ:Type}:jc (gy.C (γ:=γ)) ⟨0,70,0,jy [(gy.l0.p,gy.l0.g)]⟩:=gy.iN.lS Tryz.f70 [] (by kernel_rfl) (by kernel_rfl) (by kernel_rfl) (all_cons jC (all_cons jC all_nil)) (all_cons (fun YK rl k ls K v hv=>(show gy.l0.g YK k K ls=some v→_ from fun hv=>by
  unfold gy.l0.g at hv;split at hv
  · exact (congrFun (congrFun (gy.l0.eq YK rl K _ _ _ _ _ _ k) _) _).trans hv
  · cases hv) hv) all_nil)
theorem gy.e1 {γ:Type}:jc (gy.C (γ:=γ)) ⟨0,70,2,jy [(gy.l1.p,gy.l1.g)]⟩:=gy.iN.lS Tryz.f70 [] (by kernel_rfl) (by kernel_rfl) (by kernel_rfl) (all_cons jC (all_cons jC all_nil)) (all_cons (fun YK rl k ls K v hv=>(show gy.l1.g YK k K ls=some v→_ from fun hv=>by
  unfold gy.l1.g at hv;split at hv
  · exact (congrFun (gy.l1.eq YK rl K _ _ _ _ _ _ _ k) _).trans hv
  · cases hv) hv) all_nil)
theorem gy.ok (k:Nat):jK Tryz.prog 70 (gy.m k).s:=okW gy.iN 0 Tryz.f70 k all_nil (fun k=>all_nil) (all_cons ⟨Tryz.func70,by kernel_rfl⟩ all_nil) (all_cons gy.e0 (all_cons gy.e1 all_nil)) (by kernel_rfl) (by kernel_rfl) (fun a=>by kernel_rfl)
noncomputable def iI.m (k:Nat):Sm:=jM [(.int .i64),(.int .i64)] [.pl (.int .i64),.pl (.int .i64),.pl (.int .i64)] (fun a=>iI.f k a.1 a.2.1)
noncomputable def iI.C {γ:Type}:Ctx γ:=mkC (fun k=>mkE [] []) [(46,Tryz.f46)] [(46,mkA [] [] [] [])] [] []
theorem iI.iN {γ:Type}:(iI.C (γ:=γ)).Ok:=⟨(all_cons (fun k=>by kernel_rfl) all_nil),(all_cons (by kernel_rfl) all_nil),all_nil⟩
theorem iI.ok (k:Nat):jK Tryz.prog 46 (iI.m k).s:=okW iI.iN 0 Tryz.f46 k all_nil (fun k=>all_nil) (all_cons ⟨Tryz.func46,by kernel_rfl⟩ all_nil) all_nil (by kernel_rfl) (by kernel_rfl) (fun a=>by kernel_rfl)
noncomputable def cmp_isNaN_int.m (k:Nat):Sm:=jM [(.int .i64)] [.pl .bool] (fun a=>cmp_isNaN_int.f k a.1)
noncomputable def cmp_isNaN_int.C {γ:Type}:Ctx γ:=mkC (fun k=>mkE [] []) [(144,Tryz.f144)] [(144,mkA [] [] [] [])] [] []
theorem cmp_isNaN_int.iN {γ:Type}:(cmp_isNaN_int.C (γ:=γ)).Ok:=⟨(all_cons (fun k=>by kernel_rfl) all_nil),(all_cons (by kernel_rfl) all_nil),all_nil⟩
theorem cmp_isNaN_int.ok (k:Nat):jK Tryz.prog 144 (cmp_isNaN_int.m k).s:=okW cmp_isNaN_int.iN 0 Tryz.f144 k all_nil (fun k=>all_nil) (all_cons ⟨Tryz.func144,by kernel_rfl⟩ all_nil) all_nil (by kernel_rfl) (by kernel_rfl) (fun a=>by kernel_rfl)
noncomputable def cmp_Compare_int.m (k:Nat):Sm:=jM [(.int .i64),(.int .i64)] [.pl (.int .i64)] (fun a=>cmp_Compare_int.f k a.1 a.2.1)
noncomputable def cmp_Compare_int.C {γ:Type}:Ctx γ:=mkC (fun k=>mkE [(144,cmp_isNaN_int.m k)] []) [(112,Tryz.f112)] [(112,mkA [] [] [] [])] [] []
theorem cmp_Compare_int.iN {γ:Type}:(cmp_Compare_int.C (γ:=γ)).Ok:=⟨(all_cons (fun k=>by kernel_rfl) all_nil),(all_cons (by kernel_rfl) all_nil),all_nil⟩
theorem cmp_Compare_int.ok (k:Nat):jK Tryz.prog 112 (cmp_Compare_int.m k).s:=okW cmp_Compare_int.iN 0 Tryz.f112 k all_nil (fun k=>all_cons (cmp_isNaN_int.ok k) (all_nil)) (all_cons ⟨Tryz.func112,by kernel_rfl⟩ all_nil) all_nil (by kernel_rfl) (by kernel_rfl) (fun a=>by kernel_rfl)
noncomputable def jr.m (k:Nat):Sm:=jM [.gr,(.int .i64)] [.pl (.int .i64)] (fun a=>jr.f k a.1.f0 a.1.f1 a.2.1)
noncomputable def jr.C {γ:Type}:Ctx γ:=mkC (fun k=>mkE [(112,cmp_Compare_int.m k)] []) [(111,Tryz.f111)] [(111,mkA [] [] [] [])] [] []
theorem jr.iN {γ:Type}:(jr.C (γ:=γ)).Ok:=⟨(all_cons (fun k=>by kernel_rfl) all_nil),(all_cons (by kernel_rfl) all_nil),all_nil⟩
theorem jr.ok (k:Nat):jK Tryz.prog 111 (jr.m k).s:=okW jr.iN 0 Tryz.f111 k all_nil (fun k=>all_cons (cmp_Compare_int.ok k) (all_nil)) (all_cons ⟨Tryz.func111,by kernel_rfl⟩ all_nil) all_nil (by kernel_rfl) (by kernel_rfl) (fun a=>by kernel_rfl)
noncomputable def iw.m (k:Nat):Sm:=jM [.fm,(.int .i64)] [.pl (.int .i64),.pl .bool] (fun a=>iw.f k a.1.f0 a.1.f1 a.1.f2 a.1.f3 a.2.1)
noncomputable def iw.l0.p:PS:=⟨[.one (.s .gr),.one (.i .i64),.one (.fn 111 [])]++nOs 5++[.one (.i .i64),.one (.i .i64),.one (.i .i64)]++nOs 38,[.box 25 [.i .i64,.i .i64,.s (.sl 41 .sp),.s .gr]]⟩
noncomputable def iw.l0.c {γ:Type} (YK:HdK γ) (K:gu→St→Option γ) (c1:List P.S43) (c2:Int) (c3:Int) (c6:Int) (c7:Int) (c8:List (List P.S41)) (c9:List P.S43):=(fun y1=>K (.exit 0) ((⟨[.one (.s .gr),.one (.i .i64),.one (.fn 111 [])]++nOs 5++[.one (.i .i64),.one (.i .i64)]++nOs 39,[.box 25 [.i .i64,.i .i64,.s (.sl 41 .sp),.s .gr]]⟩:PS).mk' [.l .gr c1,.i c2,.i c3,.i y1,.i c6,.i c7,.l (.sl 41 .sp) c8,.l .gr c9]))
noncomputable def iw.l0.g {γ:Type} (YK:HdK γ) (k:Nat) (K:gu→St→Option γ):List Lf→Option γ
  | [.l .gr c1,.i c2,.i c3,.i v4,.i v5,.i c6,.i c7,.l (.sl 41 .sp) c8,.l .gr c9]=>iw.l0 (iw.l0.c YK K c1 c2 c3 c6 c7 c8 c9) c1 c2 k v4 v5
  | _=>none
noncomputable def iw.C {γ:Type}:Ctx γ:=mkC (fun k=>mkE [(111,jr.m k)] []) [(72,Tryz.f72),(110,Tryz.f110)] [(72,mkA [] [] [] []),(110,mkA [] [(0,[0,1,2,8,9,10])] [(0,[0,1,2,8,9])] [])] [⟨0,110,0,jy [(iw.l0.p,iw.l0.g)]⟩] []
theorem iw.l0.eq {γ:Type} (YK:HdK γ) (rl:Option Nat) (K:gu→St→Option γ) (c1:List P.S43) (c2:Int) (c3:Int) (c6:Int) (c7:Int) (c8:List (List P.S41)) (c9:List P.S43):∀ k:Nat,(fun (v4:Int) (v5:Int)=>iw.C.lK 0 110 0 Tryz.f110 YK rl 1 k (iw.l0.p.mk' [.l .gr c1,.i c2,.i c3,.i v4,.i v5,.i c6,.i c7,.l (.sl 41 .sp) c8,.l .gr c9]) K)=(fun (v4:Int) (v5:Int)=>iw.l0.g YK k K [.l .gr c1,.i c2,.i c3,.i v4,.i v5,.i c6,.i c7,.l (.sl 41 .sp) c8,.l .gr c9]):=iD (fun R k v4 v5=>iw.l0T (iw.l0.c YK K c1 c2 c3 c6 c7 c8 c9) c1 c2 R k v4 v5) (by kernel_rfl) (fun k=>by kernel_rfl) (fun k=>by kernel_rfl)
theorem iw.iN {γ:Type}:(iw.C (γ:=γ)).Ok:=⟨(all_cons (fun k=>by kernel_rfl) (all_cons (fun k=>by kernel_rfl) all_nil)),(all_cons (by kernel_rfl) (all_cons (by kernel_rfl) all_nil)),all_nil⟩
theorem iw.e0 {γ:Type}:jc (iw.C (γ:=γ)) ⟨0,110,0,jy [(iw.l0.p,iw.l0.g)]⟩:=iw.iN.lS Tryz.f110 [] (by kernel_rfl) (by kernel_rfl) (by kernel_rfl) (all_cons jC all_nil) (all_cons (fun YK rl k ls K v hv=>(show iw.l0.g YK k K ls=some v→_ from fun hv=>by
  unfold iw.l0.g at hv;split at hv
  · exact (congrFun (congrFun (iw.l0.eq YK rl K _ _ _ _ _ _ _ k) _) _).trans hv
  · cases hv) hv) all_nil)
theorem iw.ok (k:Nat):jK Tryz.prog 72 (iw.m k).s:=okW iw.iN 1 Tryz.f72 k all_nil (fun k=>all_cons (jr.ok k) (all_nil)) (all_cons ⟨Tryz.func72,by kernel_rfl⟩ (all_cons ⟨Tryz.func110,by kernel_rfl⟩ all_nil)) (all_cons iw.e0 all_nil) (by kernel_rfl) (by kernel_rfl) (fun a=>by kernel_rfl)
noncomputable def bits_Mul64.m (k:Nat):Sm:=jM [(.int .u64),(.int .u64)] [.pl (.int .u64),.pl (.int .u64)] (fun a=>bits_Mul64.f k a.1 a.2.1)
noncomputable def bits_Mul64.C {γ:Type}:Ctx γ:=mkC (fun k=>mkE [] []) [(113,Tryz.f113)] [(113,mkA [] [] [] [])] [] []
theorem bits_Mul64.iN {γ:Type}:(bits_Mul64.C (γ:=γ)).Ok:=⟨(all_cons (fun k=>by kernel_rfl) all_nil),(all_cons (by kernel_rfl) all_nil),all_nil⟩
theorem bits_Mul64.ok (k:Nat):jK Tryz.prog 113 (bits_Mul64.m k).s:=okW bits_Mul64.iN 0 Tryz.f113 k all_nil (fun k=>all_nil) (all_cons ⟨Tryz.func113,by kernel_rfl⟩ all_nil) all_nil (by kernel_rfl) (by kernel_rfl) (fun a=>by kernel_rfl)
noncomputable def jh.m (k:Nat):Sm:=jM [(.int .i64)] [.pl (.int .u64)] (fun a=>jh.f k a.1)
noncomputable def jh.C {γ:Type}:Ctx γ:=mkC (fun k=>mkE [] []) [(114,Tryz.f114)] [(114,mkA [] [] [] [])] [] []
theorem jh.iN {γ:Type}:(jh.C (γ:=γ)).Ok:=⟨(all_cons (fun k=>by kernel_rfl) all_nil),(all_cons (by kernel_rfl) all_nil),all_nil⟩
theorem jh.ok (k:Nat):jK Tryz.prog 114 (jh.m k).s:=okW jh.iN 0 Tryz.f114 k all_nil (fun k=>all_nil) (all_cons ⟨Tryz.func114,by kernel_rfl⟩ all_nil) all_nil (by kernel_rfl) (by kernel_rfl) (fun a=>by kernel_rfl)
noncomputable def iW.m (k:Nat):Sm:=jM [(.int .u64),.bool] [.pl (.int .i64),.pl (.int .i64)] (fun a=>iW.f k a.1 a.2.1)
noncomputable def iW.C {γ:Type}:Ctx γ:=mkC (fun k=>mkE [] []) [(115,Tryz.f115)] [(115,mkA [] [] [] [])] [] []
theorem iW.iN {γ:Type}:(iW.C (γ:=γ)).Ok:=⟨(all_cons (fun k=>by kernel_rfl) all_nil),(all_cons (by kernel_rfl) all_nil),all_nil⟩
theorem iW.ok (k:Nat):jK Tryz.prog 115 (iW.m k).s:=okW iW.iN 0 Tryz.f115 k all_nil (fun k=>all_nil) (all_cons ⟨Tryz.func115,by kernel_rfl⟩ all_nil) all_nil (by kernel_rfl) (by kernel_rfl) (fun a=>by kernel_rfl)
noncomputable def jv.m (k:Nat):Sm:=jM [(.int .i64),(.int .i64)] [.pl (.int .i64),.pl (.int .i64)] (fun a=>jv.f k a.1 a.2.1)
noncomputable def jv.C {γ:Type}:Ctx γ:=mkC (fun k=>mkE [(113,bits_Mul64.m k),(114,jh.m k),(115,iW.m k)] []) [(73,Tryz.f73)] [(73,mkA [] [] [] [])] [] []
theorem jv.iN {γ:Type}:(jv.C (γ:=γ)).Ok:=⟨(all_cons (fun k=>by kernel_rfl) all_nil),(all_cons (by kernel_rfl) all_nil),all_nil⟩
theorem jv.ok (k:Nat):jK Tryz.prog 73 (jv.m k).s:=okW jv.iN 0 Tryz.f73 k all_nil (fun k=>all_cons (bits_Mul64.ok k) (all_cons (jh.ok k) (all_cons (iW.ok k) (all_nil)))) (all_cons ⟨Tryz.func73,by kernel_rfl⟩ all_nil) all_nil (by kernel_rfl) (by kernel_rfl) (fun a=>by kernel_rfl)
noncomputable def jB.m (k:Nat):Sm:=jM [.fm,(.int .i64)] [.pl (.sl 41 .sp),.pl (.int .i64),.pl (.int .i64)] (fun a=>jB.f k a.1.f0 a.1.f1 a.1.f2 a.1.f3 a.2.1)
noncomputable def jB.C {γ:Type}:Ctx γ:=mkC (fun k=>mkE [(46,iI.m k),(72,iw.m k),(73,jv.m k)] []) [(38,Tryz.f38)] [(38,mkA [] [] [] [])] [] []
theorem jB.iN {γ:Type}:(jB.C (γ:=γ)).Ok:=⟨(all_cons (fun k=>by kernel_rfl) all_nil),(all_cons (by kernel_rfl) all_nil),all_nil⟩
theorem jB.ok (k:Nat):jK Tryz.prog 38 (jB.m k).s:=okW jB.iN 0 Tryz.f38 k all_nil (fun k=>all_cons (iI.ok k) (all_cons (iw.ok k) (all_cons (jv.ok k) (all_nil)))) (all_cons ⟨Tryz.func38,by kernel_rfl⟩ all_nil) all_nil (by kernel_rfl) (by kernel_rfl) (fun a=>by kernel_rfl)
noncomputable def jL.m (k:Nat):Sm:=jM [(.int .i64),(.int .i64)] [.pl (.int .i64),.pl (.int .i64)] (fun a=>jL.f k a.1 a.2.1)
noncomputable def jL.C {γ:Type}:Ctx γ:=mkC (fun k=>mkE [] []) [(74,Tryz.f74)] [(74,mkA [] [] [] [])] [] []
theorem jL.iN {γ:Type}:(jL.C (γ:=γ)).Ok:=⟨(all_cons (fun k=>by kernel_rfl) all_nil),(all_cons (by kernel_rfl) all_nil),all_nil⟩
theorem jL.ok (k:Nat):jK Tryz.prog 74 (jL.m k).s:=okW jL.iN 0 Tryz.f74 k all_nil (fun k=>all_nil) (all_cons ⟨Tryz.func74,by kernel_rfl⟩ all_nil) all_nil (by kernel_rfl) (by kernel_rfl) (fun a=>by kernel_rfl)
noncomputable def gP.m (k:Nat):Sm:=jM [(.sl 41 .sp),(.int .i64)] [.own 41 .sp,.pl (.int .i64)] (fun a=>gP.f k a.1 a.2.1)
noncomputable def gP.l0.p:PS:=⟨[nO,.one (.i .i64)]++nOs 4++[.one (.o 41 .sp)]++nOs 6++[.one (.s .sp),.one (.i .i64),.one (.i .i64)]++nOs 41,[]⟩
noncomputable def gP.l0.c {γ:Type} (YK:HdK γ) (K:gu→St→Option γ)  := ((fun y1=>K .ret ((⟨nOs 4++[.one (.lo 41 .sp),.one (.li .i64 20),.one (.o 41 .sp)]++nOs 50,[]⟩:PS).mk' [.l .sp y1])),(fun y1=>K (.exit 0) ((⟨nOs 6++[.one (.o 41 .sp)]++nOs 50,[]⟩:PS).mk' [.l .sp y1])))
noncomputable def gP.l0.g {γ:Type} (YK:HdK γ) (k:Nat) (K:gu→St→Option γ):List Lf→Option γ
  | [.i c1,.l .sp v2,.l .sp c3,.i c4,.i v5]=>let q:=gP.l0.c YK K;gP.l0 q.1 q.2 c1 c3 c4 k v2 v5
  | _=>none
noncomputable def gP.C {γ:Type}:Ctx γ:=mkC (fun k=>mkE [(74,jL.m k),(75,iX.m k)] []) [(39,Tryz.f39)] [(39,mkA [49,56] [(0,[1,6,13,14,15])] [(0,[4,5,6])] [])] [⟨0,39,0,jy [(gP.l0.p,gP.l0.g)]⟩] []
theorem gP.l0.eq {γ:Type} (YK:HdK γ) (rl:Option Nat) (K:gu→St→Option γ) (c1:Int) (c3:List P.S41) (c4:Int):∀ k:Nat,(fun (v2:List P.S41) (v5:Int)=>gP.C.lK 0 39 0 Tryz.f39 YK rl 0 k (gP.l0.p.mk' [.i c1,.l .sp v2,.l .sp c3,.i c4,.i v5]) K)=(fun (v2:List P.S41) (v5:Int)=>gP.l0.g YK k K [.i c1,.l .sp v2,.l .sp c3,.i c4,.i v5]):=iD (fun R k v2 v5=>gP.l0T (gP.l0.c YK K).1 (gP.l0.c YK K).2 c1 c3 c4 R k v2 v5) (by kernel_rfl) (fun k=>by kernel_rfl) (fun k=>by kernel_rfl)
theorem gP.iN {γ:Type}:(gP.C (γ:=γ)).Ok:=⟨(all_cons (fun k=>by kernel_rfl) all_nil),(all_cons (by kernel_rfl) all_nil),all_nil⟩
theorem gP.e0 {γ:Type}:jc (gP.C (γ:=γ)) ⟨0,39,0,jy [(gP.l0.p,gP.l0.g)]⟩:=gP.iN.lS Tryz.f39 [] (by kernel_rfl) (by kernel_rfl) (by kernel_rfl) (all_cons jC all_nil) (all_cons (fun YK rl k ls K v hv=>(show gP.l0.g YK k K ls=some v→_ from fun hv=>by
  unfold gP.l0.g at hv;split at hv
  · exact (congrFun (congrFun (gP.l0.eq YK rl K _ _ _ k) _) _).trans hv
  · cases hv) hv) all_nil)
theorem gP.ok (k:Nat):jK Tryz.prog 39 (gP.m k).s:=okW gP.iN 0 Tryz.f39 k all_nil (fun k=>all_cons (jL.ok k) (all_cons (iX.ok k) (all_nil))) (all_cons ⟨Tryz.func39,by kernel_rfl⟩ all_nil) (all_cons gP.e0 all_nil) (by kernel_rfl) (by kernel_rfl) (fun a=>by kernel_rfl)
noncomputable def iM.m (k:Nat):Sm:=jM [.fm,(.int .i64)] [.own 41 .sp,.pl (.int .i64)] (fun a=>iM.f k a.1.f0 a.1.f1 a.1.f2 a.1.f3 a.2.1)
noncomputable def iM.C {γ:Type}:Ctx γ:=mkC (fun k=>mkE [(37,iQ.m k),(38,jB.m k),(39,gP.m k)] []) [(11,Tryz.f11)] [(11,mkA [27] [] [] [])] [] []
theorem iM.iN {γ:Type}:(iM.C (γ:=γ)).Ok:=⟨(all_cons (fun k=>by kernel_rfl) all_nil),(all_cons (by kernel_rfl) all_nil),all_nil⟩
theorem iM.ok (k:Nat):jK Tryz.prog 11 (iM.m k).s:=okW iM.iN 0 Tryz.f11 k all_nil (fun k=>all_cons (iQ.ok k) (all_cons (jB.ok k) (all_cons (gP.ok k) (all_nil)))) (all_cons ⟨Tryz.func11,by kernel_rfl⟩ all_nil) all_nil (by kernel_rfl) (by kernel_rfl) (fun a=>by kernel_rfl)
noncomputable def ji.m (k:Nat):Sm:=jM [(.sl 41 .sp)] [.pl .bool] (fun a=>ji.f k a.1)
noncomputable def ji.C {γ:Type}:Ctx γ:=mkC (fun k=>mkE [] []) [(158,Tryz.f158)] [(158,mkA [] [] [] [])] [] []
theorem ji.iN {γ:Type}:(ji.C (γ:=γ)).Ok:=⟨(all_cons (fun k=>by kernel_rfl) all_nil),(all_cons (by kernel_rfl) all_nil),all_nil⟩
theorem ji.ok (k:Nat):jK Tryz.prog 158 (ji.m k).s:=okW ji.iN 0 Tryz.f158 k all_nil (fun k=>all_nil) (all_cons ⟨Tryz.func158,by kernel_rfl⟩ all_nil) all_nil (by kernel_rfl) (by kernel_rfl) (fun a=>by kernel_rfl)
noncomputable def gW.m (k:Nat):Sm:=jM [.fm] [.pl .bool] (fun a=>gW.f k a.1.f0 a.1.f1 a.1.f2 a.1.f3)
noncomputable def gW.l0.p:PS:=⟨[.one (.s (.sl 41 .sp)),.one (.fn 158 [])]++nOs 5++[.one (.i .i64),.one (.i .i64)]++nOs 10,[.box 25 [.i .i64,.i .i64,.s (.sl 41 .sp),.s .gr]]⟩
noncomputable def gW.l0.c {γ:Type} (YK:HdK γ) (K:gu→St→Option γ) (c4:Int) (c5:Int) (c6:List (List P.S41)) (c7:List P.S43):=((fun y1=>K .ret ((⟨nOs 4++[.one (.i .i64)]++nOs 14,[.box 25 [.i .i64,.i .i64,.s (.sl 41 .sp),.s .gr]]⟩:PS).mk' [.i y1,.i c4,.i c5,.l (.sl 41 .sp) c6,.l .gr c7])),(K (.exit 0) ((⟨nOs 19,[.box 25 [.i .i64,.i .i64,.s (.sl 41 .sp),.s .gr]]⟩:PS).mk' [.i c4,.i c5,.l (.sl 41 .sp) c6,.l .gr c7])))
noncomputable def gW.l0.g {γ:Type} (YK:HdK γ) (k:Nat) (K:gu→St→Option γ):List Lf→Option γ
  | [.l (.sl 41 .sp) c1,.i c2,.i v3,.i c4,.i c5,.l (.sl 41 .sp) c6,.l .gr c7]=>let q:=gW.l0.c YK K c4 c5 c6 c7;gW.l0 q.1 q.2 c1 c2 k v3
  | _=>none
noncomputable def gW.C {γ:Type}:Ctx γ:=mkC (fun k=>mkE [(158,ji.m k)] []) [(132,Tryz.f132),(157,Tryz.f157),(170,Tryz.f170)] [(132,mkA [] [] [] []),(157,mkA [] [] [] []),(170,mkA [] [(0,[0,1,7,8])] [(0,[4])] [])] [⟨0,170,0,jy [(gW.l0.p,gW.l0.g)]⟩] []
theorem gW.l0.eq {γ:Type} (YK:HdK γ) (rl:Option Nat) (K:gu→St→Option γ) (c1:List (List P.S41)) (c2:Int) (c4:Int) (c5:Int) (c6:List (List P.S41)) (c7:List P.S43):∀ k:Nat,(fun (v3:Int)=>gW.C.lK 0 170 0 Tryz.f170 YK rl 1 k (gW.l0.p.mk' [.l (.sl 41 .sp) c1,.i c2,.i v3,.i c4,.i c5,.l (.sl 41 .sp) c6,.l .gr c7]) K)=(fun (v3:Int)=>gW.l0.g YK k K [.l (.sl 41 .sp) c1,.i c2,.i v3,.i c4,.i c5,.l (.sl 41 .sp) c6,.l .gr c7]):=iD (fun R k v3=>gW.l0T (gW.l0.c YK K c4 c5 c6 c7).1 (gW.l0.c YK K c4 c5 c6 c7).2 c1 c2 R k v3) (by kernel_rfl) (fun k=>by kernel_rfl) (fun k=>by kernel_rfl)
theorem gW.iN {γ:Type}:(gW.C (γ:=γ)).Ok:=⟨(all_cons (fun k=>by kernel_rfl) (all_cons (fun k=>by kernel_rfl) (all_cons (fun k=>by kernel_rfl) all_nil))),(all_cons (by kernel_rfl) (all_cons (by kernel_rfl) (all_cons (by kernel_rfl) all_nil))),all_nil⟩
theorem gW.e0 {γ:Type}:jc (gW.C (γ:=γ)) ⟨0,170,0,jy [(gW.l0.p,gW.l0.g)]⟩:=gW.iN.lS Tryz.f170 [] (by kernel_rfl) (by kernel_rfl) (by kernel_rfl) (all_cons jC all_nil) (all_cons (fun YK rl k ls K v hv=>(show gW.l0.g YK k K ls=some v→_ from fun hv=>by
  unfold gW.l0.g at hv;split at hv
  · exact (congrFun (gW.l0.eq YK rl K _ _ _ _ _ _ k) _).trans hv
  · cases hv) hv) all_nil)
theorem gW.ok (k:Nat):jK Tryz.prog 132 (gW.m k).s:=okW gW.iN 2 Tryz.f132 k all_nil (fun k=>all_cons (ji.ok k) (all_nil)) (all_cons ⟨Tryz.func132,by kernel_rfl⟩ (all_cons ⟨Tryz.func157,by kernel_rfl⟩ (all_cons ⟨Tryz.func170,by kernel_rfl⟩ all_nil))) (all_cons gW.e0 all_nil) (by kernel_rfl) (by kernel_rfl) (fun a=>by kernel_rfl)
end Go.Proofs.YtongeknogcboiaaGreat.R
namespace Go.Proofs.YtongeknogcboiaaGreat.R
open M Go.RowKit Go.Proofs.YtongeknogcboiaaGreatW.fK Go.Proofs.YtongeknogcboiaaGreatW.gN Go.Proofs.YtongeknogcboiaaGreatW.iC
set_option linter.unusedVariables false
noncomputable def jN.m (k:Nat):Sm:=jM [.fm,(.int .i64)] [.pl .bool] (fun a=>jN.f k a.1.f0 a.1.f1 a.1.f2 a.1.f3 a.2.1)
noncomputable def jN.C {γ:Type}:Ctx γ:=mkC (fun k=>mkE [(38,jB.m k)] []) [(133,Tryz.f133)] [(133,mkA [] [] [] [])] [] []
theorem jN.iN {γ:Type}:(jN.C (γ:=γ)).Ok:=⟨(all_cons (fun k=>by kernel_rfl) all_nil),(all_cons (by kernel_rfl) all_nil),all_nil⟩
theorem jN.ok (k:Nat):jK Tryz.prog 133 (jN.m k).s:=okW jN.iN 0 Tryz.f133 k all_nil (fun k=>all_cons (jB.ok k) (all_nil)) (all_cons ⟨Tryz.func133,by kernel_rfl⟩ all_nil) all_nil (by kernel_rfl) (by kernel_rfl) (fun a=>by kernel_rfl)
noncomputable def fM.m (k:Nat):Sm:=jM [.fm,(.int .i64),(.int .i64)] [.pl (.int .i64),.pl .bool] (fun a=>fM.f k a.1.f0 a.1.f1 a.1.f2 a.1.f3 a.2.1 a.2.2.1)
noncomputable def fM.l1.p:PS:=⟨[nO,nO,.one (.i .i64),.one (.bp 0 0)]++nOs 4++[.one (.i .i64)]++nOs 54,[.box 25 [.i .i64,.i .i64,.s (.sl 41 .sp),.s .gr]]⟩
noncomputable def fM.l1.c {γ:Type} (YK:HdK γ) (K:gu→St→Option γ) (c3:Int) (c4:Int) (c5:List (List P.S41)) (c6:List P.S43):=((fun y1=>K .ret ((⟨nOs 6++[.one (.i .i64),.one (.lb true)]++nOs 55,[.box 25 [.i .i64,.i .i64,.s (.sl 41 .sp),.s .gr]]⟩:PS).mk' [.i y1,.i c3,.i c4,.l (.sl 41 .sp) c5,.l .gr c6])),(K (.exit 0) ((⟨nOs 63,[.box 25 [.i .i64,.i .i64,.s (.sl 41 .sp),.s .gr]]⟩:PS).mk' [.i c3,.i c4,.l (.sl 41 .sp) c5,.l .gr c6])))
noncomputable def fM.l1.g {γ:Type} (YK:HdK γ) (k:Nat) (K:gu→St→Option γ):List Lf→Option γ
  | [.i c1,.i v2,.i c3,.i c4,.l (.sl 41 .sp) c5,.l .gr c6]=>let q:=fM.l1.c YK K c3 c4 c5 c6;fM.l1 q.1 q.2 c1 c6 k v2
  | _=>none
noncomputable def fM.l0.p:PS:=⟨[nO,nO,.one (.i .i64),.one (.bp 0 0)]++nOs 4++[.one (.i .i64)]++nOs 54,[.box 25 [.i .i64,.i .i64,.s (.sl 41 .sp),.s .gr]]⟩
noncomputable def fM.l0.c {γ:Type} (YK:HdK γ) (K:gu→St→Option γ)  := ((fun y1 y2 y3 y4 y5=>K .ret ((⟨nOs 6++[.one (.i .i64),.one (.lb true)]++nOs 55,[.box 25 [.i .i64,.i .i64,.s (.sl 41 .sp),.s .gr]]⟩:PS).mk' [.i y1,.i y2,.i y3,.l (.sl 41 .sp) y4,.l .gr y5])),(fun y1 y2 y3 y4=>K .ret ((⟨nOs 6++[.one (.li .i64 0),.one (.lb false)]++nOs 55,[.box 25 [.i .i64,.i .i64,.s (.sl 41 .sp),.s .gr]]⟩:PS).mk' [.i y1,.i y2,.l (.sl 41 .sp) y3,.l .gr y4])))
noncomputable def fM.l0.g {γ:Type} (YK:HdK γ) (k:Nat) (K:gu→St→Option γ):List Lf→Option γ
  | [.i v1,.i v2,.i v3,.i v4,.l (.sl 41 .sp) v5,.l .gr v6]=>let q:=fM.l0.c YK K;fM.l0 q.1 q.2 k v1 v2 v3 v4 v5 v6
  | _=>none
noncomputable def fM.l2.p:PS:=⟨[nO,nO,.one (.i .i64),.one (.bp 0 0)]++nOs 6++[.one (.i .i64)]++nOs 52,[.box 25 [.i .i64,.i .i64,.s (.sl 41 .sp),.s .gr]]⟩
noncomputable def fM.l2.c {γ:Type} (YK:HdK γ) (K:gu→St→Option γ) (c3:Int) (c4:Int) (c5:List (List P.S41)) (c6:List P.S43):=((fun y1=>K .ret ((⟨nOs 6++[.one (.i .i64),.one (.lb true)]++nOs 55,[.box 25 [.i .i64,.i .i64,.s (.sl 41 .sp),.s .gr]]⟩:PS).mk' [.i y1,.i c3,.i c4,.l (.sl 41 .sp) c5,.l .gr c6])),(K (.exit 2) ((⟨nOs 63,[.box 25 [.i .i64,.i .i64,.s (.sl 41 .sp),.s .gr]]⟩:PS).mk' [.i c3,.i c4,.l (.sl 41 .sp) c5,.l .gr c6])))
noncomputable def fM.l2.g {γ:Type} (YK:HdK γ) (k:Nat) (K:gu→St→Option γ):List Lf→Option γ
  | [.i c1,.i v2,.i c3,.i c4,.l (.sl 41 .sp) c5,.l .gr c6]=>let q:=fM.l2.c YK K c3 c4 c5 c6;fM.l2 q.1 q.2 c1 c3 c4 c5 c6 k v2
  | _=>none
noncomputable def fM.C {γ:Type}:Ctx γ:=mkC (fun k=>mkE [(37,iQ.m k),(72,iw.m k),(132,gW.m k),(133,jN.m k)] []) [(99,Tryz.f99)] [(99,mkA [] [(0,[2,3,8]),(2,[2,3,10]),(1000002,[2,3,8])] [(0,[6,7]),(2,[6,7]),(1000002,[1,2,3,6,7])] [])] [⟨0,99,0,jy [(fM.l1.p,fM.l1.g)]⟩,⟨0,99,1000002,jy [(fM.l0.p,fM.l0.g)]⟩,⟨0,99,2,jy [(fM.l2.p,fM.l2.g)]⟩] []
theorem fM.l1.eq {γ:Type} (YK:HdK γ) (rl:Option Nat) (K:gu→St→Option γ) (c1:Int) (c3:Int) (c4:Int) (c5:List (List P.S41)) (c6:List P.S43):∀ k:Nat,(fun (v2:Int)=>fM.C.lK 0 99 0 Tryz.f99 YK rl 1 k (fM.l1.p.mk' [.i c1,.i v2,.i c3,.i c4,.l (.sl 41 .sp) c5,.l .gr c6]) K)=(fun (v2:Int)=>fM.l1.g YK k K [.i c1,.i v2,.i c3,.i c4,.l (.sl 41 .sp) c5,.l .gr c6]):=iD (fun R k v2=>fM.l1T (fM.l1.c YK K c3 c4 c5 c6).1 (fM.l1.c YK K c3 c4 c5 c6).2 c1 c6 R k v2) (by kernel_rfl) (fun k=>by kernel_rfl) (fun k=>by kernel_rfl)
theorem fM.l0.eq {γ:Type} (YK:HdK γ) (rl:Option Nat) (K:gu→St→Option γ) (k:Nat) (v1:Int) (v2:Int) (v3:Int) (v4:Int) (v5:List (List P.S41)) (v6:List P.S43):fM.C.lK 0 99 1000002 Tryz.f99 YK rl 1 k (fM.l0.p.mk' [.i v1,.i v2,.i v3,.i v4,.l (.sl 41 .sp) v5,.l .gr v6]) K=fM.l0.g YK k K [.i v1,.i v2,.i v3,.i v4,.l (.sl 41 .sp) v5,.l .gr v6]:=by kernel_rfl
theorem fM.l2.eq {γ:Type} (YK:HdK γ) (rl:Option Nat) (K:gu→St→Option γ) (c1:Int) (c3:Int) (c4:Int) (c5:List (List P.S41)) (c6:List P.S43):∀ k:Nat,(fun (v2:Int)=>fM.C.lK 0 99 2 Tryz.f99 YK rl 1 k (fM.l2.p.mk' [.i c1,.i v2,.i c3,.i c4,.l (.sl 41 .sp) c5,.l .gr c6]) K)=(fun (v2:Int)=>fM.l2.g YK k K [.i c1,.i v2,.i c3,.i c4,.l (.sl 41 .sp) c5,.l .gr c6]):=iD (fun R k v2=>fM.l2T (fM.l2.c YK K c3 c4 c5 c6).1 (fM.l2.c YK K c3 c4 c5 c6).2 c1 c3 c4 c5 c6 R k v2) (by kernel_rfl) (fun k=>by kernel_rfl) (fun k=>by kernel_rfl)
theorem fM.iN {γ:Type}:(fM.C (γ:=γ)).Ok:=⟨(all_cons (fun k=>by kernel_rfl) all_nil),(all_cons (by kernel_rfl) all_nil),all_nil⟩
theorem fM.e0 {γ:Type}:jc (fM.C (γ:=γ)) ⟨0,99,0,jy [(fM.l1.p,fM.l1.g)]⟩:=fM.iN.lS Tryz.f99 [] (by kernel_rfl) (by kernel_rfl) (by kernel_rfl) (all_cons jC (all_cons jC (all_cons jC all_nil))) (all_cons (fun YK rl k ls K v hv=>(show fM.l1.g YK k K ls=some v→_ from fun hv=>by
  unfold fM.l1.g at hv;split at hv
  · exact (congrFun (fM.l1.eq YK rl K _ _ _ _ _ k) _).trans hv
  · cases hv) hv) all_nil)
theorem fM.e1 {γ:Type}:jc (fM.C (γ:=γ)) ⟨0,99,1000002,jy [(fM.l0.p,fM.l0.g)]⟩:=fM.iN.lS Tryz.f99 [0] (by kernel_rfl) (by kernel_rfl) (by kernel_rfl) (all_cons (fun _=>fM.e0) (all_cons jC (all_cons jC all_nil))) (all_cons (fun YK rl k ls K v hv=>(show fM.l0.g YK k K ls=some v→_ from fun hv=>by
  unfold fM.l0.g at hv;split at hv
  · exact (fM.l0.eq YK rl K k _ _ _ _ _ _).trans hv
  · cases hv) hv) all_nil)
theorem fM.e2 {γ:Type}:jc (fM.C (γ:=γ)) ⟨0,99,2,jy [(fM.l2.p,fM.l2.g)]⟩:=fM.iN.lS Tryz.f99 [] (by kernel_rfl) (by kernel_rfl) (by kernel_rfl) (all_cons jC (all_cons jC (all_cons jC all_nil))) (all_cons (fun YK rl k ls K v hv=>(show fM.l2.g YK k K ls=some v→_ from fun hv=>by
  unfold fM.l2.g at hv;split at hv
  · exact (congrFun (fM.l2.eq YK rl K _ _ _ _ _ k) _).trans hv
  · cases hv) hv) all_nil)
theorem fM.ok (k:Nat):jK Tryz.prog 99 (fM.m k).s:=okW fM.iN 0 Tryz.f99 k all_nil (fun k=>all_cons (iQ.ok k) (all_cons (iw.ok k) (all_cons (gW.ok k) (all_cons (jN.ok k) (all_nil))))) (all_cons ⟨Tryz.func99,by kernel_rfl⟩ all_nil) (all_cons fM.e0 (all_cons fM.e1 (all_cons fM.e2 all_nil))) (by kernel_rfl) (by kernel_rfl) (fun a=>by kernel_rfl)
noncomputable def iB.m (k:Nat):Sm:=jM [.fm,(.int .i64)] [.pl (.int .i64),.pl .bool] (fun a=>iB.f k a.1.f0 a.1.f1 a.1.f2 a.1.f3 a.2.1)
noncomputable def iB.C {γ:Type}:Ctx γ:=mkC (fun k=>mkE [(99,fM.m k)] []) [(60,Tryz.f60)] [(60,mkA [] [] [] [])] [] []
theorem iB.iN {γ:Type}:(iB.C (γ:=γ)).Ok:=⟨(all_cons (fun k=>by kernel_rfl) all_nil),(all_cons (by kernel_rfl) all_nil),all_nil⟩
theorem iB.ok (k:Nat):jK Tryz.prog 60 (iB.m k).s:=okW iB.iN 0 Tryz.f60 k all_nil (fun k=>all_cons (fM.ok k) (all_nil)) (all_cons ⟨Tryz.func60,by kernel_rfl⟩ all_nil) all_nil (by kernel_rfl) (by kernel_rfl) (fun a=>by kernel_rfl)
noncomputable def iJ.m (k:Nat):Sm:=jM [.fm,(.int .i64)] [.pl (.int .i64),.pl .bool] (fun a=>iJ.f k a.1.f0 a.1.f1 a.1.f2 a.1.f3 a.2.1)
noncomputable def iJ.C {γ:Type}:Ctx γ:=mkC (fun k=>mkE [(99,fM.m k)] []) [(61,Tryz.f61)] [(61,mkA [] [] [] [])] [] []
theorem iJ.iN {γ:Type}:(iJ.C (γ:=γ)).Ok:=⟨(all_cons (fun k=>by kernel_rfl) all_nil),(all_cons (by kernel_rfl) all_nil),all_nil⟩
theorem iJ.ok (k:Nat):jK Tryz.prog 61 (iJ.m k).s:=okW iJ.iN 0 Tryz.f61 k all_nil (fun k=>all_cons (fM.ok k) (all_nil)) (all_cons ⟨Tryz.func61,by kernel_rfl⟩ all_nil) all_nil (by kernel_rfl) (by kernel_rfl) (fun a=>by kernel_rfl)
noncomputable def iP.m (k:Nat):Sm:=jM [(.sl 41 .sp),(.sl 41 .sp)] [.pl .bool] (fun a=>iP.f k a.1 a.2.1)
noncomputable def iP.C {γ:Type}:Ctx γ:=mkC (fun k=>mkE [] []) [(109,Tryz.f109)] [(109,mkA [] [] [] [])] [] []
theorem iP.iN {γ:Type}:(iP.C (γ:=γ)).Ok:=⟨(all_cons (fun k=>by kernel_rfl) all_nil),(all_cons (by kernel_rfl) all_nil),all_nil⟩
theorem iP.ok (k:Nat):jK Tryz.prog 109 (iP.m k).s:=okW iP.iN 0 Tryz.f109 k all_nil (fun k=>all_nil) (all_cons ⟨Tryz.func109,by kernel_rfl⟩ all_nil) all_nil (by kernel_rfl) (by kernel_rfl) (fun a=>by kernel_rfl)
noncomputable def jE.m (k:Nat):Sm:=jM [.fm,(.int .i64)] [.pl .bool] (fun a=>jE.f k a.1.f0 a.1.f1 a.1.f2 a.1.f3 a.2.1)
noncomputable def jE.C {γ:Type}:Ctx γ:=mkC (fun k=>mkE [(11,iM.m k),(60,iB.m k),(61,iJ.m k),(109,iP.m k)] []) [(71,Tryz.f71)] [(71,mkA [] [] [] [])] [] []
theorem jE.iN {γ:Type}:(jE.C (γ:=γ)).Ok:=⟨(all_cons (fun k=>by kernel_rfl) all_nil),(all_cons (by kernel_rfl) all_nil),all_nil⟩
theorem jE.ok (k:Nat):jK Tryz.prog 71 (jE.m k).s:=okW jE.iN 0 Tryz.f71 k all_nil (fun k=>all_cons (iM.ok k) (all_cons (iB.ok k) (all_cons (iJ.ok k) (all_cons (iP.ok k) (all_nil))))) (all_cons ⟨Tryz.func71,by kernel_rfl⟩ all_nil) all_nil (by kernel_rfl) (by kernel_rfl) (fun a=>by kernel_rfl)
noncomputable def gF.m (k:Nat):Sm:=jM [.fm] [.pl (.int .i64)] (fun a=>gF.f k a.1.f0 a.1.f1 a.1.f2 a.1.f3)
noncomputable def gF.l1.p:PS:=⟨[nO,.one (.bp 0 0)]++nOs 27++[.one (.s .gr),.one (.i .i64),.one (.i .i64)]++nOs 9,[.box 25 [.i .i64,.i .i64,.s (.sl 41 .sp),.s .gr]]⟩
noncomputable def gF.l1.c {γ:Type} (YK:HdK γ) (K:gu→St→Option γ) (c4:Int) (c5:Int) (c6:List (List P.S41)) (c7:List P.S43):=((K .ret ((⟨[nO,nO,.one (.li .i64 50)]++nOs 38,[.box 25 [.i .i64,.i .i64,.s (.sl 41 .sp),.s .gr]]⟩:PS).mk' [.i c4,.i c5,.l (.sl 41 .sp) c6,.l .gr c7])),(K (.exit 0) ((⟨nOs 41,[.box 25 [.i .i64,.i .i64,.s (.sl 41 .sp),.s .gr]]⟩:PS).mk' [.i c4,.i c5,.l (.sl 41 .sp) c6,.l .gr c7])))
noncomputable def gF.l1.g {γ:Type} (YK:HdK γ) (k:Nat) (K:gu→St→Option γ):List Lf→Option γ
  | [.l .gr c1,.i c2,.i v3,.i c4,.i c5,.l (.sl 41 .sp) c6,.l .gr c7]=>let q:=gF.l1.c YK K c4 c5 c6 c7;gF.l1 q.1 q.2 c1 c2 c4 c5 c6 c7 k v3
  | _=>none
noncomputable def gF.l0.p:PS:=⟨[nO,.one (.bp 0 0)]++nOs 39,[.box 25 [.i .i64,.i .i64,.s (.sl 41 .sp),.s .gr]]⟩
noncomputable def gF.l0.c {γ:Type} (YK:HdK γ) (K:gu→St→Option γ)  := ((fun y1 y2 y3 y4=>K .ret ((⟨[nO,nO,.one (.li .i64 50)]++nOs 38,[.box 25 [.i .i64,.i .i64,.s (.sl 41 .sp),.s .gr]]⟩:PS).mk' [.i y1,.i y2,.l (.sl 41 .sp) y3,.l .gr y4])),(fun y1 y2 y3 y4=>K .ret ((⟨[nO,nO,.one (.li .i64 0)]++nOs 38,[.box 25 [.i .i64,.i .i64,.s (.sl 41 .sp),.s .gr]]⟩:PS).mk' [.i y1,.i y2,.l (.sl 41 .sp) y3,.l .gr y4])))
noncomputable def gF.l0.g {γ:Type} (YK:HdK γ) (k:Nat) (K:gu→St→Option γ):List Lf→Option γ
  | [.i v1,.i v2,.l (.sl 41 .sp) v3,.l .gr v4]=>let q:=gF.l0.c YK K;gF.l0 q.1 q.2 k v1 v2 v3 v4
  | _=>none
noncomputable def gF.C {γ:Type}:Ctx γ:=mkC (fun k=>mkE [(68,gM.m k),(69,fO.m k),(70,gy.m k),(71,jE.m k)] []) [(35,Tryz.f35)] [(35,mkA [] [(0,[1,29,30,31]),(1000010,[1])] [(0,[2]),(1000010,[2])] [])] [⟨0,35,0,jy [(gF.l1.p,gF.l1.g)]⟩,⟨0,35,1000010,jy [(gF.l0.p,gF.l0.g)]⟩] []
theorem gF.l1.eq {γ:Type} (YK:HdK γ) (rl:Option Nat) (K:gu→St→Option γ) (c1:List P.S43) (c2:Int) (c4:Int) (c5:Int) (c6:List (List P.S41)) (c7:List P.S43):∀ k:Nat,(fun (v3:Int)=>gF.C.lK 0 35 0 Tryz.f35 YK rl 1 k (gF.l1.p.mk' [.l .gr c1,.i c2,.i v3,.i c4,.i c5,.l (.sl 41 .sp) c6,.l .gr c7]) K)=(fun (v3:Int)=>gF.l1.g YK k K [.l .gr c1,.i c2,.i v3,.i c4,.i c5,.l (.sl 41 .sp) c6,.l .gr c7]):=iD (fun R k v3=>gF.l1T (gF.l1.c YK K c4 c5 c6 c7).1 (gF.l1.c YK K c4 c5 c6 c7).2 c1 c2 c4 c5 c6 c7 R k v3) (by kernel_rfl) (fun k=>by kernel_rfl) (fun k=>by kernel_rfl)
theorem gF.l0.eq {γ:Type} (YK:HdK γ) (rl:Option Nat) (K:gu→St→Option γ) (k:Nat) (v1:Int) (v2:Int) (v3:List (List P.S41)) (v4:List P.S43):gF.C.lK 0 35 1000010 Tryz.f35 YK rl 1 k (gF.l0.p.mk' [.i v1,.i v2,.l (.sl 41 .sp) v3,.l .gr v4]) K=gF.l0.g YK k K [.i v1,.i v2,.l (.sl 41 .sp) v3,.l .gr v4]:=by kernel_rfl
theorem gF.iN {γ:Type}:(gF.C (γ:=γ)).Ok:=⟨(all_cons (fun k=>by kernel_rfl) all_nil),(all_cons (by kernel_rfl) all_nil),all_nil⟩
theorem gF.e0 {γ:Type}:jc (gF.C (γ:=γ)) ⟨0,35,0,jy [(gF.l1.p,gF.l1.g)]⟩:=gF.iN.lS Tryz.f35 [] (by kernel_rfl) (by kernel_rfl) (by kernel_rfl) (all_cons jC (all_cons jC all_nil)) (all_cons (fun YK rl k ls K v hv=>(show gF.l1.g YK k K ls=some v→_ from fun hv=>by
  unfold gF.l1.g at hv;split at hv
  · exact (congrFun (gF.l1.eq YK rl K _ _ _ _ _ _ k) _).trans hv
  · cases hv) hv) all_nil)
theorem gF.e1 {γ:Type}:jc (gF.C (γ:=γ)) ⟨0,35,1000010,jy [(gF.l0.p,gF.l0.g)]⟩:=gF.iN.lS Tryz.f35 [0] (by kernel_rfl) (by kernel_rfl) (by kernel_rfl) (all_cons (fun _=>gF.e0) (all_cons jC all_nil)) (all_cons (fun YK rl k ls K v hv=>(show gF.l0.g YK k K ls=some v→_ from fun hv=>by
  unfold gF.l0.g at hv;split at hv
  · exact (gF.l0.eq YK rl K k _ _ _ _).trans hv
  · cases hv) hv) all_nil)
theorem gF.ok (k:Nat):jK Tryz.prog 35 (gF.m k).s:=okW gF.iN 0 Tryz.f35 k all_nil (fun k=>all_cons (gM.ok k) (all_cons (fO.ok k) (all_cons (gy.ok k) (all_cons (jE.ok k) (all_nil))))) (all_cons ⟨Tryz.func35,by kernel_rfl⟩ all_nil) (all_cons gF.e0 (all_cons gF.e1 all_nil)) (by kernel_rfl) (by kernel_rfl) (fun a=>by kernel_rfl)
noncomputable def kC.m (k:Nat):Sm:=jM [.fm] [.pl .bool] (fun a=>kC.f k a.1.f0 a.1.f1 a.1.f2 a.1.f3)
noncomputable def gZ.m (k:Nat):Sm:=jM [(.sl 41 .sp),.bool] [.pl (.int .i64)] (fun a=>gZ.f k a.1 a.2.1)
noncomputable def gZ.C {γ:Type}:Ctx γ:=mkC (fun k=>mkE [] []) [(147,Tryz.f147)] [(147,mkA [] [] [] [])] [] []
theorem gZ.iN {γ:Type}:(gZ.C (γ:=γ)).Ok:=⟨(all_cons (fun k=>by kernel_rfl) all_nil),(all_cons (by kernel_rfl) all_nil),all_nil⟩
theorem gZ.ok (k:Nat):jK Tryz.prog 147 (gZ.m k).s:=okW gZ.iN 0 Tryz.f147 k all_nil (fun k=>all_nil) (all_cons ⟨Tryz.func147,by kernel_rfl⟩ all_nil) all_nil (by kernel_rfl) (by kernel_rfl) (fun a=>by kernel_rfl)
noncomputable def iK.m (k:Nat):Sm:=jM [(.sl 41 .sp),.bool,(.int .i64)] [.pl (.sl 41 .sp),.pl .bool] (fun a=>iK.f k a.1 a.2.1 a.2.2.1)
noncomputable def iK.C {γ:Type}:Ctx γ:=mkC (fun k=>mkE [] []) [(149,Tryz.f149)] [(149,mkA [42,43] [] [] [])] [] []
theorem iK.iN {γ:Type}:(iK.C (γ:=γ)).Ok:=⟨(all_cons (fun k=>by kernel_rfl) all_nil),(all_cons (by kernel_rfl) all_nil),all_nil⟩
theorem iK.ok (k:Nat):jK Tryz.prog 149 (iK.m k).s:=okW iK.iN 0 Tryz.f149 k all_nil (fun k=>all_nil) (all_cons ⟨Tryz.func149,by kernel_rfl⟩ all_nil) all_nil (by kernel_rfl) (by kernel_rfl) (fun a=>by kernel_rfl)
noncomputable def jf.m (k:Nat):Sm:=jM [.bool,.bool] [.pl .bool] (fun a=>jf.f k a.1 a.2.1)
noncomputable def jf.C {γ:Type}:Ctx γ:=mkC (fun k=>mkE [] []) [(80,Tryz.f80)] [(80,mkA [] [] [] [])] [] []
theorem jf.iN {γ:Type}:(jf.C (γ:=γ)).Ok:=⟨(all_cons (fun k=>by kernel_rfl) all_nil),(all_cons (by kernel_rfl) all_nil),all_nil⟩
theorem jf.ok (k:Nat):jK Tryz.prog 80 (jf.m k).s:=okW jf.iN 0 Tryz.f80 k all_nil (fun k=>all_nil) (all_cons ⟨Tryz.func80,by kernel_rfl⟩ all_nil) all_nil (by kernel_rfl) (by kernel_rfl) (fun a=>by kernel_rfl)
noncomputable def gH.m (k:Nat):Sm:=jM [(.sl 41 .sp),(.sl 41 .sp)] [.own 41 .sp] (fun a=>gH.f k a.1 a.2.1)
noncomputable def gH.y0.p0:List PB:=[.box 97 [.fn 80 []],.box 28 [.o 41 .sp],.box 4 [.b],.box 3 [.i .i64],.box 28 [.s .sp],.box 28 [.s .sp],.box 163 [.fn 147 []],.lp .normal]
noncomputable def gH.y0 {γ:Type} (x:AV) (bx:List Bx) (x0:(List P.S41)→Bool→Int→(List P.S41)→(List P.S41)→Option γ):Option γ :=
  match yrd true gH.y0.p0 x bx with
  | some [.l .sp z1,.b z2,.i z3,.l .sp z4,.l .sp z5]=>(x0 z1 z2 z3 z4 z5)
  | _=>none
noncomputable def gH.y0T {γ:Type}:YdK γ:=fun K x bx=>gH.y0 x bx (fun z1 z2 z3 z4 z5=>K (jV true) (nM gH.y0.p0 [.l .sp z1,.b z2,.i z3,.l .sp z4,.l .sp z5]).1)
theorem gH.mV {γ:Type}:tO (gH.y0T (γ:=γ)):=fun K x bx v h=>by
  unfold gH.y0T gH.y0 at h;split at h
  · rename_i hy
    obtain ⟨rfl,rfl⟩:=jT hy;exact h
  · cases h
noncomputable def gH.l0.p:PS:=⟨[.one (.yl 7),.one (.bp 4 0),.one (.bp 5 0),.one (.bp 6 0),nO,.one (.b),.one (.b)]++nOs 53,[.box 97 [.fn 80 []],.box 28 [.o 41 .sp],.box 4 [.b],.box 3 [.i .i64],.box 28 [.s .sp],.box 28 [.s .sp],.box 163 [.fn 147 []],.lp .normal]⟩
noncomputable def gH.l0.c {γ:Type} (YK:HdK γ) (K:gu→St→Option γ)  := ((fun q0 q1 q2 q3 q4 q5 q6 q7 x0=>(YK 7).bind fun h=>h [.pt (.agg [.v (.int .i64 q0),.v (.bool q1),.v (.bool q2)])] [.box 97 [.fn 80 []],.box 28 [.ow 41 .sp q3],.box 4 [.v (.bool q4)],.box 3 [.v (.int .i64 q5)],.box 28 [.sl .sp q6],.box 28 [.sl .sp q7],.box 163 [.fn 147 []],.lp .normal] (fun x bx=>gH.y0 x bx x0)),(fun y1 y2 y3 y4 y5=>K (.exit 0) ((⟨nOs 60,[.box 97 [.fn 80 []],.box 28 [.o 41 .sp],.box 4 [.b],.box 3 [.i .i64],.box 28 [.s .sp],.box 28 [.s .sp],.box 163 [.fn 147 []],.lp .normal]⟩:PS).mk' [.l .sp y1,.b y2,.i y3,.l .sp y4,.l .sp y5])))
noncomputable def gH.l0.g {γ:Type} (YK:HdK γ) (k:Nat) (K:gu→St→Option γ):List Lf→Option γ
  | [.b v1,.b v2,.l .sp v3,.b v4,.i v5,.l .sp v6,.l .sp v7]=>let q:=gH.l0.c YK K;gH.l0 q.1 q.2 k v1 v2 v3 v4 v5 v6 v7
  | _=>none
noncomputable def gH.C {γ:Type}:Ctx γ:=mkC (fun k=>mkE [(80,jf.m k),(147,gZ.m k),(149,iK.m k)] []) [(42,Tryz.f42),(79,Tryz.f79),(118,Tryz.f118),(148,Tryz.f148)] [(42,mkA [] [] [] []),(79,mkA [36,45] [] [] []),(118,mkA [] [] [] []),(148,mkA [100014,100018] [(0,[0,1,2,3,5,6])] [(0,[])] [])] [⟨1,148,0,jy [(gH.l0.p,gH.l0.g)]⟩] [⟨1,148,7,gH.y0T⟩]
theorem gH.l0.eq {γ:Type} (YK:HdK γ) (rl:Option Nat) (K:gu→St→Option γ)  : ∀ k:Nat,(fun (v1:Bool) (v2:Bool) (v3:List P.S41) (v4:Bool) (v5:Int) (v6:List P.S41) (v7:List P.S41)=>gH.C.lK 1 148 0 Tryz.f148 YK rl 8 k (gH.l0.p.mk' [.b v1,.b v2,.l .sp v3,.b v4,.i v5,.l .sp v6,.l .sp v7]) K)=(fun (v1:Bool) (v2:Bool) (v3:List P.S41) (v4:Bool) (v5:Int) (v6:List P.S41) (v7:List P.S41)=>gH.l0.g YK k K [.b v1,.b v2,.l .sp v3,.b v4,.i v5,.l .sp v6,.l .sp v7]):=iD (fun R k v1 v2 v3 v4 v5 v6 v7=>gH.l0T (gH.l0.c YK K).1 (gH.l0.c YK K).2 R k v1 v2 v3 v4 v5 v6 v7) (by kernel_rfl) (fun k=>by kernel_rfl) (fun k=>by kernel_rfl)
theorem gH.iN {γ:Type}:(gH.C (γ:=γ)).Ok:=⟨(all_cons (fun k=>by kernel_rfl) (all_cons (fun k=>by kernel_rfl) (all_cons (fun k=>by kernel_rfl) (all_cons (fun k=>by kernel_rfl) all_nil)))),(all_cons (by kernel_rfl) (all_cons (by kernel_rfl) (all_cons (by kernel_rfl) (all_cons (by kernel_rfl) all_nil)))),(all_cons gH.mV all_nil)⟩
theorem gH.e0 {γ:Type}:jc (gH.C (γ:=γ)) ⟨1,148,0,jy [(gH.l0.p,gH.l0.g)]⟩:=gH.iN.lS Tryz.f148 [] (by kernel_rfl) (by kernel_rfl) (by kernel_rfl) (all_cons jC all_nil) (all_cons (fun YK rl k ls K v hv=>(show gH.l0.g YK k K ls=some v→_ from fun hv=>by
  unfold gH.l0.g at hv;split at hv
  · exact (congrFun (congrFun (congrFun (congrFun (congrFun (congrFun (congrFun (gH.l0.eq YK rl K k) _) _) _) _) _) _) _).trans hv
  · cases hv) hv) all_nil)
theorem gH.ok (k:Nat):jK Tryz.prog 42 (gH.m k).s:=okW gH.iN 3 Tryz.f42 k all_nil (fun k=>all_cons (jf.ok k) (all_cons (gZ.ok k) (all_cons (iK.ok k) (all_nil)))) (all_cons ⟨Tryz.func42,by kernel_rfl⟩ (all_cons ⟨Tryz.func79,by kernel_rfl⟩ (all_cons ⟨Tryz.func118,by kernel_rfl⟩ (all_cons ⟨Tryz.func148,by kernel_rfl⟩ all_nil)))) (all_cons gH.e0 all_nil) (by kernel_rfl) (by kernel_rfl) (fun a=>by kernel_rfl)
noncomputable def iE.m (k:Nat):Sm:=jM [(.sl 41 .sp),(.sl 41 .sp)] [.pl .bool] (fun a=>iE.f k a.1 a.2.1)
noncomputable def iE.C {γ:Type}:Ctx γ:=mkC (fun k=>mkE [(42,gH.m k)] []) [(14,Tryz.f14)] [(14,mkA [] [] [] [])] [] []
theorem iE.iN {γ:Type}:(iE.C (γ:=γ)).Ok:=⟨(all_cons (fun k=>by kernel_rfl) all_nil),(all_cons (by kernel_rfl) all_nil),all_nil⟩
theorem iE.ok (k:Nat):jK Tryz.prog 14 (iE.m k).s:=okW iE.iN 0 Tryz.f14 k all_nil (fun k=>all_cons (gH.ok k) (all_nil)) (all_cons ⟨Tryz.func14,by kernel_rfl⟩ all_nil) all_nil (by kernel_rfl) (by kernel_rfl) (fun a=>by kernel_rfl)
noncomputable def iA.m (k:Nat):Sm:=jM [(.sl 41 .sp)] [.pl .sp,.pl .bool] (fun a=>iA.f k a.1)
noncomputable def iA.C {γ:Type}:Ctx γ:=mkC (fun k=>mkE [] []) [(52,Tryz.f52)] [(52,mkA [] [] [] [])] [] []
theorem iA.iN {γ:Type}:(iA.C (γ:=γ)).Ok:=⟨(all_cons (fun k=>by kernel_rfl) all_nil),(all_cons (by kernel_rfl) all_nil),all_nil⟩
theorem iA.ok (k:Nat):jK Tryz.prog 52 (iA.m k).s:=okW iA.iN 0 Tryz.f52 k all_nil (fun k=>all_nil) (all_cons ⟨Tryz.func52,by kernel_rfl⟩ all_nil) all_nil (by kernel_rfl) (by kernel_rfl) (fun a=>by kernel_rfl)
noncomputable def jO.m (k:Nat):Sm:=jM [.sp,(.int .i64),(.int .i64)] [.pl (.int .i64)] (fun a=>jO.f k a.1.f0 a.1.f1 a.2.1 a.2.2.1)
noncomputable def jO.C {γ:Type}:Ctx γ:=mkC (fun k=>mkE [(46,iI.m k)] []) [(125,Tryz.f125)] [(125,mkA [] [] [] [])] [] []
theorem jO.iN {γ:Type}:(jO.C (γ:=γ)).Ok:=⟨(all_cons (fun k=>by kernel_rfl) all_nil),(all_cons (by kernel_rfl) all_nil),all_nil⟩
theorem jO.ok (k:Nat):jK Tryz.prog 125 (jO.m k).s:=okW jO.iN 0 Tryz.f125 k all_nil (fun k=>all_cons (iI.ok k) (all_nil)) (all_cons ⟨Tryz.func125,by kernel_rfl⟩ all_nil) all_nil (by kernel_rfl) (by kernel_rfl) (fun a=>by kernel_rfl)
noncomputable def jF.m (k:Nat):Sm:=jM [.sp,(.int .i64)] [.pl .bool] (fun a=>jF.f k a.1.f0 a.1.f1 a.2.1)
noncomputable def jF.C {γ:Type}:Ctx γ:=mkC (fun k=>mkE [] []) [(126,Tryz.f126)] [(126,mkA [] [] [] [])] [] []
theorem jF.iN {γ:Type}:(jF.C (γ:=γ)).Ok:=⟨(all_cons (fun k=>by kernel_rfl) all_nil),(all_cons (by kernel_rfl) all_nil),all_nil⟩
theorem jF.ok (k:Nat):jK Tryz.prog 126 (jF.m k).s:=okW jF.iN 0 Tryz.f126 k all_nil (fun k=>all_nil) (all_cons ⟨Tryz.func126,by kernel_rfl⟩ all_nil) all_nil (by kernel_rfl) (by kernel_rfl) (fun a=>by kernel_rfl)
noncomputable def lg.m (k:Nat):Sm:=jM [] [.fx [.v (.int .i64 1),.fn 60 [],.fn 125 [],.fn 126 []]] (fun a=>lg.f k)
noncomputable def lg.C {γ:Type}:Ctx γ:=mkC (fun k=>mkE [] []) [(87,Tryz.f87)] [(87,mkA [] [] [] [])] [] []
theorem lg.iN {γ:Type}:(lg.C (γ:=γ)).Ok:=⟨(all_cons (fun k=>by kernel_rfl) all_nil),(all_cons (by kernel_rfl) all_nil),all_nil⟩
theorem lg.ok (k:Nat):jK Tryz.prog 87 (lg.m k).s:=okW lg.iN 0 Tryz.f87 k all_nil (fun k=>all_nil) (all_cons ⟨Tryz.func87,by kernel_rfl⟩ all_nil) all_nil (by kernel_rfl) (by kernel_rfl) (fun a=>by kernel_rfl)
end Go.Proofs.YtongeknogcboiaaGreat.R
