/- Lemmas for laws of chapter 7: what the functions that they reach compute. No condition of its own. -/
import Derived.Test.YtcomnjodjijcmaaGreatYE9
import Derived.Test.YtcomnjodjijcmaaGreatYE10
import Derived.Test.YtcomnjodjijcmaaGreatYE12
import Derived.Test.YtcomnjodjijcmaaGreatYE14
import Derived.Test.YtcomnjodjijcmaaGreatYE15
namespace Go.Proofs.YtcomnjodjijcmaaGreat.R
open M Go.RowKit Go.Proofs.YtcomnjodjijcmaaGreatW.dz Go.Proofs.YtcomnjodjijcmaaGreatW.dX Go.Proofs.YtcomnjodjijcmaaGreatW.eD
set_option linter.unusedVariables false
noncomputable def aa3.m (k:Nat):Sm:=jd [.fm] [.pl .fm] (fun a=>aa3.f k a.1.f0 a.1.f1 a.1.f2 a.1.f3)
noncomputable def aa3.l0.p:PS:=⟨[nO,.one (.bp 0 0),.one (.bp 1 0),.one (.bp 2 0)]++nOs 10++[.one (.s (.sl 42 .sp)),.one (.i .i64),.one (.i .i64)]++nOs 31,[.box 25 [.i .i64,.i .i64,.s (.sl 42 .sp),.s .gr],.box 25 [.li .i64 0,.li .i64 0,.lo 37 (.sl 42 .sp),.lo 44 .gr],.box 25 [.i .i64,.i .i64,.o 37 (.sl 42 .sp),.lo 44 .gr]]⟩
noncomputable def aa3.l0.c {γ:Type} (YK:HdK γ) (K:dQ→St→Option γ) (c4:Int) (c5:Int) (c6:List (List P.S42)) (c7:List P.S44) (c8:Int) (c9:Int):=(fun y1=>K (.exit 0) ((⟨[nO,.one (.bp 0 0),.one (.bp 1 0),.one (.bp 2 0)]++nOs 44,[.box 25 [.i .i64,.i .i64,.s (.sl 42 .sp),.s .gr],.box 25 [.li .i64 0,.li .i64 0,.lo 37 (.sl 42 .sp),.lo 44 .gr],.box 25 [.i .i64,.i .i64,.o 37 (.sl 42 .sp),.lo 44 .gr]]⟩:PS).mk' [.i c4,.i c5,.l (.sl 42 .sp) c6,.l .gr c7,.i c8,.i c9,.l (.sl 42 .sp) y1]))
noncomputable def aa3.l0.g {γ:Type} (YK:HdK γ) (k:Nat) (K:dQ→St→Option γ):List Lf→Option γ
  | [.l (.sl 42 .sp) c1,.i c2,.i v3,.i c4,.i c5,.l (.sl 42 .sp) c6,.l .gr c7,.i c8,.i c9,.l (.sl 42 .sp) v10]=>aa3.l0 (aa3.l0.c YK K c4 c5 c6 c7 c8 c9) c1 c2 k v3 v10
  | _=>none
noncomputable def aa3.l1.p:PS:=⟨[nO,nO,.one (.bp 1 0),.one (.bp 2 0)]++nOs 25++[.one (.s .gr),.one (.i .i64),.one (.i .i64)]++nOs 16,[.box 25 [.i .i64,.i .i64,.s (.sl 42 .sp),.s .gr],.box 25 [.li .i64 0,.li .i64 0,.lo 37 (.sl 42 .sp),.lo 44 .gr],.box 25 [.i .i64,.i .i64,.o 37 (.sl 42 .sp),.o 44 .gr]]⟩
noncomputable def aa3.l1.c {γ:Type} (YK:HdK γ) (K:dQ→St→Option γ) (c4:Int) (c5:Int) (c6:List (List P.S42)) (c7:List P.S44) (c8:Int) (c9:Int) (c10:List (List P.S42)):=(fun y1=>K (.exit 2) ((⟨[nO,nO,.one (.bp 1 0),.one (.bp 2 0)]++nOs 44,[.box 25 [.i .i64,.i .i64,.s (.sl 42 .sp),.s .gr],.box 25 [.li .i64 0,.li .i64 0,.lo 37 (.sl 42 .sp),.lo 44 .gr],.box 25 [.i .i64,.i .i64,.o 37 (.sl 42 .sp),.o 44 .gr]]⟩:PS).mk' [.i c4,.i c5,.l (.sl 42 .sp) c6,.l .gr c7,.i c8,.i c9,.l (.sl 42 .sp) c10,.l .gr y1]))
noncomputable def aa3.l1.g {γ:Type} (YK:HdK γ) (k:Nat) (K:dQ→St→Option γ):List Lf→Option γ
  | [.l .gr c1,.i c2,.i v3,.i c4,.i c5,.l (.sl 42 .sp) c6,.l .gr c7,.i c8,.i c9,.l (.sl 42 .sp) c10,.l .gr v11]=>aa3.l1 (aa3.l1.c YK K c4 c5 c6 c7 c8 c9 c10) c1 c2 k v3 v11
  | _=>none
noncomputable def aa3.C {γ:Type}:Ctx γ:=mkC (fun k=>mkE [(39,agN.m k)] []) [(15,Tryz.f15)] [(15,mkA [21,36,47] [(0,[1,2,3,14,15,16]),(2,[2,3,29,30,31])] [(0,[1,2,3]),(2,[2,3])] [])] [⟨0,15,0,iD [(aa3.l0.p,aa3.l0.g)]⟩,⟨0,15,2,iD [(aa3.l1.p,aa3.l1.g)]⟩] []
theorem aa3.l0.eq {γ:Type} (YK:HdK γ) (rl:Option Nat) (K:dQ→St→Option γ) (c1:List (List P.S42)) (c2:Int) (c4:Int) (c5:Int) (c6:List (List P.S42)) (c7:List P.S44) (c8:Int) (c9:Int):∀ k:Nat,(fun (v3:Int) (v10:List (List P.S42))=>aa3.C.lK 0 15 0 Tryz.f15 YK rl 3 k (aa3.l0.p.mk' [.l (.sl 42 .sp) c1,.i c2,.i v3,.i c4,.i c5,.l (.sl 42 .sp) c6,.l .gr c7,.i c8,.i c9,.l (.sl 42 .sp) v10]) K)=(fun (v3:Int) (v10:List (List P.S42))=>aa3.l0.g YK k K [.l (.sl 42 .sp) c1,.i c2,.i v3,.i c4,.i c5,.l (.sl 42 .sp) c6,.l .gr c7,.i c8,.i c9,.l (.sl 42 .sp) v10]):=fH (fun R k v3 v10=>aa3.l0T (aa3.l0.c YK K c4 c5 c6 c7 c8 c9) c1 c2 R k v3 v10) (by kernel_rfl) (fun k=>by kernel_rfl) (fun k=>by kernel_rfl)
theorem aa3.l1.eq {γ:Type} (YK:HdK γ) (rl:Option Nat) (K:dQ→St→Option γ) (c1:List P.S44) (c2:Int) (c4:Int) (c5:Int) (c6:List (List P.S42)) (c7:List P.S44) (c8:Int) (c9:Int) (c10:List (List P.S42)):∀ k:Nat,(fun (v3:Int) (v11:List P.S44)=>aa3.C.lK 0 15 2 Tryz.f15 YK rl 3 k (aa3.l1.p.mk' [.l .gr c1,.i c2,.i v3,.i c4,.i c5,.l (.sl 42 .sp) c6,.l .gr c7,.i c8,.i c9,.l (.sl 42 .sp) c10,.l .gr v11]) K)=(fun (v3:Int) (v11:List P.S44)=>aa3.l1.g YK k K [.l .gr c1,.i c2,.i v3,.i c4,.i c5,.l (.sl 42 .sp) c6,.l .gr c7,.i c8,.i c9,.l (.sl 42 .sp) c10,.l .gr v11]):=fH (fun R k v3 v11=>aa3.l1T (aa3.l1.c YK K c4 c5 c6 c7 c8 c9 c10) c1 c2 R k v3 v11) (by kernel_rfl) (fun k=>by kernel_rfl) (fun k=>by kernel_rfl)
theorem aa3.fE {γ:Type}:(aa3.C (γ:=γ)).Ok:=⟨(all_cons (fun k=>by kernel_rfl) all_nil),(all_cons (by kernel_rfl) all_nil),all_nil⟩
theorem aa3.e0 {γ:Type}:gu (aa3.C (γ:=γ)) ⟨0,15,0,iD [(aa3.l0.p,aa3.l0.g)]⟩:=aa3.fE.jT Tryz.f15 [] (by kernel_rfl) (by kernel_rfl) (by kernel_rfl) (all_cons iF (all_cons iF all_nil)) (all_cons (fun YK rl k ls K v hv=>(show aa3.l0.g YK k K ls=some v→_ from fun hv=>by
  unfold aa3.l0.g at hv;split at hv
  · exact (congrFun (congrFun (aa3.l0.eq YK rl K _ _ _ _ _ _ _ _ k) _) _).trans hv
  · cases hv) hv) all_nil)
theorem aa3.e1 {γ:Type}:gu (aa3.C (γ:=γ)) ⟨0,15,2,iD [(aa3.l1.p,aa3.l1.g)]⟩:=aa3.fE.jT Tryz.f15 [] (by kernel_rfl) (by kernel_rfl) (by kernel_rfl) (all_cons iF (all_cons iF all_nil)) (all_cons (fun YK rl k ls K v hv=>(show aa3.l1.g YK k K ls=some v→_ from fun hv=>by
  unfold aa3.l1.g at hv;split at hv
  · exact (congrFun (congrFun (aa3.l1.eq YK rl K _ _ _ _ _ _ _ _ _ k) _) _).trans hv
  · cases hv) hv) all_nil)
theorem aa3.ok (k:Nat):iV Tryz.prog 15 (aa3.m k).s:=okW aa3.fE 0 Tryz.f15 k all_nil (fun k=>all_cons (agN.ok k) (all_nil)) (all_cons ⟨Tryz.func15,by kernel_rfl⟩ all_nil) (all_cons aa3.e0 (all_cons aa3.e1 all_nil)) (by kernel_rfl) (by kernel_rfl) (fun a=>by kernel_rfl)
noncomputable def agV.m (k:Nat):Sm:=jd [.fm,.fm] [.pl .bool,.pl (.int .i64)] (fun a=>agV.f k a.1.f0 a.1.f1 a.1.f2 a.1.f3 a.2.1.f0 a.2.1.f1 a.2.1.f2 a.2.1.f3)
noncomputable def agV.C {γ:Type}:Ctx γ:=mkC (fun k=>mkE [(10,dK.m k),(40,dL.m k),(41,dO.m k),(42,dS.m k)] []) [(16,Tryz.f16)] [(16,mkA [] [] [] [])] [] []
theorem agV.fE {γ:Type}:(agV.C (γ:=γ)).Ok:=⟨(all_cons (fun k=>by kernel_rfl) all_nil),(all_cons (by kernel_rfl) all_nil),all_nil⟩
theorem agV.ok (k:Nat):iV Tryz.prog 16 (agV.m k).s:=okW agV.fE 0 Tryz.f16 k all_nil (fun k=>all_cons (dK.ok k) (all_cons (dL.ok k) (all_cons (dO.ok k) (all_cons (dS.ok k) (all_nil))))) (all_cons ⟨Tryz.func16,by kernel_rfl⟩ all_nil) all_nil (by kernel_rfl) (by kernel_rfl) (fun a=>by kernel_rfl)
noncomputable def agx.m (k:Nat):Sm:=jd [.fm] [.pl .bool] (fun a=>agx.f k a.1.f0 a.1.f1 a.1.f2 a.1.f3)
noncomputable def agx.l0.p:PS:=⟨[nO,.one (.bp 0 0),nO,.one (.i .i64)]++nOs 14,[.box 25 [.i .i64,.i .i64,.s (.sl 42 .sp),.s .gr]]⟩
noncomputable def agx.l0.c {γ:Type} (YK:HdK γ) (K:dQ→St→Option γ) (c2:Int) (c3:Int) (c4:List (List P.S42)) (c5:List P.S44):=((K .ret ((⟨[nO,nO,.one (.lb false)]++nOs 15,[.box 25 [.i .i64,.i .i64,.s (.sl 42 .sp),.s .gr]]⟩:PS).mk' [.i c2,.i c3,.l (.sl 42 .sp) c4,.l .gr c5])),(K (.exit 0) ((⟨nOs 18,[.box 25 [.i .i64,.i .i64,.s (.sl 42 .sp),.s .gr]]⟩:PS).mk' [.i c2,.i c3,.l (.sl 42 .sp) c4,.l .gr c5])))
noncomputable def agx.l0.g {γ:Type} (YK:HdK γ) (k:Nat) (K:dQ→St→Option γ):List Lf→Option γ
  | [.i v1,.i c2,.i c3,.l (.sl 42 .sp) c4,.l .gr c5]=>let q:=agx.l0.c YK K c2 c3 c4 c5;agx.l0 q.1 q.2 c4 k v1
  | _=>none
noncomputable def agx.C {γ:Type}:Ctx γ:=mkC (fun k=>mkE [] []) [(86,Tryz.f86)] [(86,mkA [] [(0,[1,3])] [(0,[2])] [])] [⟨0,86,0,iD [(agx.l0.p,agx.l0.g)]⟩] []
theorem agx.l0.eq {γ:Type} (YK:HdK γ) (rl:Option Nat) (K:dQ→St→Option γ) (c2:Int) (c3:Int) (c4:List (List P.S42)) (c5:List P.S44):∀ k:Nat,(fun (v1:Int)=>agx.C.lK 0 86 0 Tryz.f86 YK rl 1 k (agx.l0.p.mk' [.i v1,.i c2,.i c3,.l (.sl 42 .sp) c4,.l .gr c5]) K)=(fun (v1:Int)=>agx.l0.g YK k K [.i v1,.i c2,.i c3,.l (.sl 42 .sp) c4,.l .gr c5]):=fH (fun R k v1=>agx.l0T (agx.l0.c YK K c2 c3 c4 c5).1 (agx.l0.c YK K c2 c3 c4 c5).2 c4 R k v1) (by kernel_rfl) (fun k=>by kernel_rfl) (fun k=>by kernel_rfl)
theorem agx.fE {γ:Type}:(agx.C (γ:=γ)).Ok:=⟨(all_cons (fun k=>by kernel_rfl) all_nil),(all_cons (by kernel_rfl) all_nil),all_nil⟩
theorem agx.e0 {γ:Type}:gu (agx.C (γ:=γ)) ⟨0,86,0,iD [(agx.l0.p,agx.l0.g)]⟩:=agx.fE.jT Tryz.f86 [] (by kernel_rfl) (by kernel_rfl) (by kernel_rfl) (all_cons iF all_nil) (all_cons (fun YK rl k ls K v hv=>(show agx.l0.g YK k K ls=some v→_ from fun hv=>by
  unfold agx.l0.g at hv;split at hv
  · exact (congrFun (agx.l0.eq YK rl K _ _ _ _ k) _).trans hv
  · cases hv) hv) all_nil)
theorem agx.ok (k:Nat):iV Tryz.prog 86 (agx.m k).s:=okW agx.fE 0 Tryz.f86 k all_nil (fun k=>all_nil) (all_cons ⟨Tryz.func86,by kernel_rfl⟩ all_nil) (all_cons agx.e0 all_nil) (by kernel_rfl) (by kernel_rfl) (fun a=>by kernel_rfl)
noncomputable def agG.m (k:Nat):Sm:=jd [(.int .i64),(.int .i64)] [.pl (.int .i64),.pl (.int .i64)] (fun a=>agG.f k a.1 a.2.1)
noncomputable def agG.C {γ:Type}:Ctx γ:=mkC (fun k=>mkE [] []) [(95,Tryz.f95)] [(95,mkA [] [] [] [])] [] []
theorem agG.fE {γ:Type}:(agG.C (γ:=γ)).Ok:=⟨(all_cons (fun k=>by kernel_rfl) all_nil),(all_cons (by kernel_rfl) all_nil),all_nil⟩
theorem agG.ok (k:Nat):iV Tryz.prog 95 (agG.m k).s:=okW agG.fE 0 Tryz.f95 k all_nil (fun k=>all_nil) (all_cons ⟨Tryz.func95,by kernel_rfl⟩ all_nil) all_nil (by kernel_rfl) (by kernel_rfl) (fun a=>by kernel_rfl)
noncomputable def agJ.m (k:Nat):Sm:=jd [.fm,(.int .i64)] [.pl (.sl 42 .sp),.pl (.int .i64)] (fun a=>agJ.f k a.1.f0 a.1.f1 a.1.f2 a.1.f3 a.2.1)
noncomputable def agJ.C {γ:Type}:Ctx γ:=mkC (fun k=>mkE [(95,agG.m k)] []) [(88,Tryz.f88)] [(88,mkA [] [] [] [])] [] []
theorem agJ.fE {γ:Type}:(agJ.C (γ:=γ)).Ok:=⟨(all_cons (fun k=>by kernel_rfl) all_nil),(all_cons (by kernel_rfl) all_nil),all_nil⟩
theorem agJ.ok (k:Nat):iV Tryz.prog 88 (agJ.m k).s:=okW agJ.fE 0 Tryz.f88 k all_nil (fun k=>all_cons (agG.ok k) (all_nil)) (all_cons ⟨Tryz.func88,by kernel_rfl⟩ all_nil) all_nil (by kernel_rfl) (by kernel_rfl) (fun a=>by kernel_rfl)
noncomputable def agt.m (k:Nat):Sm:=jd [(.sl 42 .sp),(.int .i64),(.sl 42 .sp),(.int .i64)] [.pl .bool] (fun a=>agt.f k a.1 a.2.1 a.2.2.1 a.2.2.2.1)
noncomputable def agt.l0.p:PS:=⟨[.one (.s .sp),.one (.i .i64),.one (.s .sp),.one (.i .i64)]++nOs 5++[.one (.i .i64)]++nOs 43,[]⟩
noncomputable def agt.l0.c {γ:Type} (YK:HdK γ) (K:dQ→St→Option γ)  := ((K .ret ((⟨nOs 8++[.one (.lb false)]++nOs 44,[]⟩:PS).mk' [])),(K (.exit 0) ((⟨nOs 53,[]⟩:PS).mk' [])))
noncomputable def agt.l0.g {γ:Type} (YK:HdK γ) (k:Nat) (K:dQ→St→Option γ):List Lf→Option γ
  | [.l .sp c1,.i c2,.l .sp c3,.i c4,.i v5]=>let q:=agt.l0.c YK K;agt.l0 q.1 q.2 c1 c2 c3 c4 k v5
  | _=>none
noncomputable def agt.C {γ:Type}:Ctx γ:=mkC (fun k=>mkE [] []) [(89,Tryz.f89)] [(89,mkA [] [(0,[0,1,2,3,9])] [(0,[8])] [])] [⟨0,89,0,iD [(agt.l0.p,agt.l0.g)]⟩] []
theorem agt.l0.eq {γ:Type} (YK:HdK γ) (rl:Option Nat) (K:dQ→St→Option γ) (c1:List P.S42) (c2:Int) (c3:List P.S42) (c4:Int):∀ k:Nat,(fun (v5:Int)=>agt.C.lK 0 89 0 Tryz.f89 YK rl 0 k (agt.l0.p.mk' [.l .sp c1,.i c2,.l .sp c3,.i c4,.i v5]) K)=(fun (v5:Int)=>agt.l0.g YK k K [.l .sp c1,.i c2,.l .sp c3,.i c4,.i v5]):=fH (fun R k v5=>agt.l0T (agt.l0.c YK K).1 (agt.l0.c YK K).2 c1 c2 c3 c4 R k v5) (by kernel_rfl) (fun k=>by kernel_rfl) (fun k=>by kernel_rfl)
theorem agt.fE {γ:Type}:(agt.C (γ:=γ)).Ok:=⟨(all_cons (fun k=>by kernel_rfl) all_nil),(all_cons (by kernel_rfl) all_nil),all_nil⟩
theorem agt.e0 {γ:Type}:gu (agt.C (γ:=γ)) ⟨0,89,0,iD [(agt.l0.p,agt.l0.g)]⟩:=agt.fE.jT Tryz.f89 [] (by kernel_rfl) (by kernel_rfl) (by kernel_rfl) (all_cons iF all_nil) (all_cons (fun YK rl k ls K v hv=>(show agt.l0.g YK k K ls=some v→_ from fun hv=>by
  unfold agt.l0.g at hv;split at hv
  · exact (congrFun (agt.l0.eq YK rl K _ _ _ _ k) _).trans hv
  · cases hv) hv) all_nil)
theorem agt.ok (k:Nat):iV Tryz.prog 89 (agt.m k).s:=okW agt.fE 0 Tryz.f89 k all_nil (fun k=>all_nil) (all_cons ⟨Tryz.func89,by kernel_rfl⟩ all_nil) (all_cons agt.e0 all_nil) (by kernel_rfl) (by kernel_rfl) (fun a=>by kernel_rfl)
noncomputable def agu.m (k:Nat):Sm:=jd [.fm,(.int .i64)] [.pl .bool] (fun a=>agu.f k a.1.f0 a.1.f1 a.1.f2 a.1.f3 a.2.1)
noncomputable def agu.l0.p:PS:=⟨[nO,.one (.i .i64),.one (.bp 0 0),nO,nO,.one (.i .i64)]++nOs 53,[.box 25 [.i .i64,.i .i64,.s (.sl 42 .sp),.s .gr]]⟩
noncomputable def agu.l0.c {γ:Type} (YK:HdK γ) (K:dQ→St→Option γ) (c3:Int) (c4:Int) (c5:List (List P.S42)) (c6:List P.S44):=((K .ret ((⟨nOs 4++[.one (.lb false)]++nOs 54,[.box 25 [.i .i64,.i .i64,.s (.sl 42 .sp),.s .gr]]⟩:PS).mk' [.i c3,.i c4,.l (.sl 42 .sp) c5,.l .gr c6])),(K (.exit 0) ((⟨nOs 59,[.box 25 [.i .i64,.i .i64,.s (.sl 42 .sp),.s .gr]]⟩:PS).mk' [.i c3,.i c4,.l (.sl 42 .sp) c5,.l .gr c6])))
noncomputable def agu.l0.g {γ:Type} (YK:HdK γ) (k:Nat) (K:dQ→St→Option γ):List Lf→Option γ
  | [.i c1,.i v2,.i c3,.i c4,.l (.sl 42 .sp) c5,.l .gr c6]=>let q:=agu.l0.c YK K c3 c4 c5 c6;agu.l0 q.1 q.2 c1 c3 c4 c5 c6 k v2
  | _=>none
noncomputable def agu.C {γ:Type}:Ctx γ:=mkC (fun k=>mkE [(88,agJ.m k),(89,agt.m k)] []) [(87,Tryz.f87)] [(87,mkA [] [(0,[1,2,5])] [(0,[4])] [])] [⟨0,87,0,iD [(agu.l0.p,agu.l0.g)]⟩] []
theorem agu.l0.eq {γ:Type} (YK:HdK γ) (rl:Option Nat) (K:dQ→St→Option γ) (c1:Int) (c3:Int) (c4:Int) (c5:List (List P.S42)) (c6:List P.S44):∀ k:Nat,(fun (v2:Int)=>agu.C.lK 0 87 0 Tryz.f87 YK rl 1 k (agu.l0.p.mk' [.i c1,.i v2,.i c3,.i c4,.l (.sl 42 .sp) c5,.l .gr c6]) K)=(fun (v2:Int)=>agu.l0.g YK k K [.i c1,.i v2,.i c3,.i c4,.l (.sl 42 .sp) c5,.l .gr c6]):=fH (fun R k v2=>agu.l0T (agu.l0.c YK K c3 c4 c5 c6).1 (agu.l0.c YK K c3 c4 c5 c6).2 c1 c3 c4 c5 c6 R k v2) (by kernel_rfl) (fun k=>by kernel_rfl) (fun k=>by kernel_rfl)
theorem agu.fE {γ:Type}:(agu.C (γ:=γ)).Ok:=⟨(all_cons (fun k=>by kernel_rfl) all_nil),(all_cons (by kernel_rfl) all_nil),all_nil⟩
theorem agu.e0 {γ:Type}:gu (agu.C (γ:=γ)) ⟨0,87,0,iD [(agu.l0.p,agu.l0.g)]⟩:=agu.fE.jT Tryz.f87 [] (by kernel_rfl) (by kernel_rfl) (by kernel_rfl) (all_cons iF all_nil) (all_cons (fun YK rl k ls K v hv=>(show agu.l0.g YK k K ls=some v→_ from fun hv=>by
  unfold agu.l0.g at hv;split at hv
  · exact (congrFun (agu.l0.eq YK rl K _ _ _ _ _ k) _).trans hv
  · cases hv) hv) all_nil)
theorem agu.ok (k:Nat):iV Tryz.prog 87 (agu.m k).s:=okW agu.fE 0 Tryz.f87 k all_nil (fun k=>all_cons (agJ.ok k) (all_cons (agt.ok k) (all_nil))) (all_cons ⟨Tryz.func87,by kernel_rfl⟩ all_nil) (all_cons agu.e0 all_nil) (by kernel_rfl) (by kernel_rfl) (fun a=>by kernel_rfl)
noncomputable def nu.m (k:Nat):Sm:=jd [.fm] [.pl .fm] (fun a=>nu.f k a.1.f0 a.1.f1 a.1.f2 a.1.f3)
noncomputable def nu.l0.p:PS:=⟨[nO,.one (.bp 0 0),.one (.bp 1 0),.one (.bp 2 0),.one (.i .i64)]++nOs 94,[.box 25 [.i .i64,.i .i64,.s (.sl 42 .sp),.s .gr],.box 25 [.li .i64 0,.li .i64 0,.lo 37 (.sl 42 .sp),.lo 44 .gr],.box 25 [.li .i64 0,.li .i64 0,.lo 37 (.sl 42 .sp),.lo 44 .gr]]⟩
noncomputable def nu.l0.c {γ:Type} (YK:HdK γ) (K:dQ→St→Option γ) (c2:Int) (c3:Int) (c4:List (List P.S42)) (c5:List P.S44):=(fun y1=>K (.exit 0) ((⟨[nO,.one (.bp 0 0),.one (.bp 1 0),.one (.bp 2 0),.one (.i .i64)]++nOs 94,[.box 25 [.i .i64,.i .i64,.s (.sl 42 .sp),.s .gr],.box 25 [.li .i64 0,.li .i64 0,.lo 37 (.sl 42 .sp),.lo 44 .gr],.box 25 [.li .i64 0,.li .i64 0,.lo 37 (.sl 42 .sp),.lo 44 .gr]]⟩:PS).mk' [.i y1,.i c2,.i c3,.l (.sl 42 .sp) c4,.l .gr c5]))
noncomputable def nu.l0.g {γ:Type} (YK:HdK γ) (k:Nat) (K:dQ→St→Option γ):List Lf→Option γ
  | [.i v1,.i c2,.i c3,.l (.sl 42 .sp) c4,.l .gr c5]=>nu.l0 (nu.l0.c YK K c2 c3 c4 c5) c2 c3 c4 c5 k v1
  | _=>none
noncomputable def nu.l1.p:PS:=⟨[nO,.one (.bp 0 0),.one (.bp 1 0),.one (.bp 2 0),.one (.i .i64),.one (.i .i64)]++nOs 93,[.box 25 [.i .i64,.i .i64,.s (.sl 42 .sp),.s .gr],.box 25 [.li .i64 0,.li .i64 0,.lo 37 (.sl 42 .sp),.lo 44 .gr],.box 25 [.i .i64,.i .i64,.o 37 (.sl 42 .sp),.lo 44 .gr]]⟩
noncomputable def nu.l1.c {γ:Type} (YK:HdK γ) (K:dQ→St→Option γ) (c3:Int) (c4:Int) (c5:List (List P.S42)) (c6:List P.S44) (c7:Int) (c8:Int):=(fun y1=>K (.exit 2) ((⟨[nO,.one (.bp 0 0),.one (.bp 1 0),.one (.bp 2 0)]++nOs 95,[.box 25 [.i .i64,.i .i64,.s (.sl 42 .sp),.s .gr],.box 25 [.li .i64 0,.li .i64 0,.lo 37 (.sl 42 .sp),.lo 44 .gr],.box 25 [.i .i64,.i .i64,.o 37 (.sl 42 .sp),.lo 44 .gr]]⟩:PS).mk' [.i c3,.i c4,.l (.sl 42 .sp) c5,.l .gr c6,.i c7,.i c8,.l (.sl 42 .sp) y1]))
noncomputable def nu.l1.g {γ:Type} (YK:HdK γ) (k:Nat) (K:dQ→St→Option γ):List Lf→Option γ
  | [.i c1,.i v2,.i c3,.i c4,.l (.sl 42 .sp) c5,.l .gr c6,.i c7,.i c8,.l (.sl 42 .sp) v9]=>nu.l1 (nu.l1.c YK K c3 c4 c5 c6 c7 c8) c1 c5 k v2 v9
  | _=>none
noncomputable def nu.l2.p:PS:=⟨[nO,.one (.bp 0 0),.one (.bp 1 0),.one (.bp 2 0),nO,nO,.one (.o 44 .gr),.one (.i .i64)]++nOs 91,[.box 25 [.i .i64,.i .i64,.s (.sl 42 .sp),.s .gr],.box 25 [.li .i64 0,.li .i64 0,.lo 37 (.sl 42 .sp),.lo 44 .gr],.box 25 [.i .i64,.i .i64,.o 37 (.sl 42 .sp),.lo 44 .gr]]⟩
noncomputable def nu.l2.c {γ:Type} (YK:HdK γ) (K:dQ→St→Option γ) (c3:Int) (c4:Int) (c5:List (List P.S42)) (c6:List P.S44) (c7:Int) (c8:Int) (c9:List (List P.S42)):=(fun y1=>K (.exit 4) ((⟨[nO,nO,.one (.bp 1 0),.one (.bp 2 0),nO,nO,.one (.o 44 .gr)]++nOs 92,[.box 25 [.i .i64,.i .i64,.s (.sl 42 .sp),.s .gr],.box 25 [.li .i64 0,.li .i64 0,.lo 37 (.sl 42 .sp),.lo 44 .gr],.box 25 [.i .i64,.i .i64,.o 37 (.sl 42 .sp),.lo 44 .gr]]⟩:PS).mk' [.l .gr y1,.i c3,.i c4,.l (.sl 42 .sp) c5,.l .gr c6,.i c7,.i c8,.l (.sl 42 .sp) c9]))
noncomputable def nu.l2.g {γ:Type} (YK:HdK γ) (k:Nat) (K:dQ→St→Option γ):List Lf→Option γ
  | [.l .gr v1,.i v2,.i c3,.i c4,.l (.sl 42 .sp) c5,.l .gr c6,.i c7,.i c8,.l (.sl 42 .sp) c9]=>nu.l2 (nu.l2.c YK K c3 c4 c5 c6 c7 c8 c9) c6 c7 c8 c9 k v1 v2
  | _=>none
noncomputable def nu.C {γ:Type}:Ctx γ:=mkC (fun k=>mkE [(86,agx.m k),(87,agu.m k),(88,agJ.m k),(89,agt.m k)] []) [(43,Tryz.f43)] [(43,mkA [19,35,78,96,98] [(0,[1,2,3,4]),(2,[1,2,3,4,5]),(4,[1,2,3,6,7])] [(0,[1,2,3,4]),(2,[1,2,3]),(4,[2,3,6])] [])] [⟨0,43,0,iD [(nu.l0.p,nu.l0.g)]⟩,⟨0,43,2,iD [(nu.l1.p,nu.l1.g)]⟩,⟨0,43,4,iD [(nu.l2.p,nu.l2.g)]⟩] []
theorem nu.l0.eq {γ:Type} (YK:HdK γ) (rl:Option Nat) (K:dQ→St→Option γ) (c2:Int) (c3:Int) (c4:List (List P.S42)) (c5:List P.S44):∀ k:Nat,(fun (v1:Int)=>nu.C.lK 0 43 0 Tryz.f43 YK rl 3 k (nu.l0.p.mk' [.i v1,.i c2,.i c3,.l (.sl 42 .sp) c4,.l .gr c5]) K)=(fun (v1:Int)=>nu.l0.g YK k K [.i v1,.i c2,.i c3,.l (.sl 42 .sp) c4,.l .gr c5]):=fH (fun R k v1=>nu.l0T (nu.l0.c YK K c2 c3 c4 c5) c2 c3 c4 c5 R k v1) (by kernel_rfl) (fun k=>by kernel_rfl) (fun k=>by kernel_rfl)
theorem nu.l1.eq {γ:Type} (YK:HdK γ) (rl:Option Nat) (K:dQ→St→Option γ) (c1:Int) (c3:Int) (c4:Int) (c5:List (List P.S42)) (c6:List P.S44) (c7:Int) (c8:Int):∀ k:Nat,(fun (v2:Int) (v9:List (List P.S42))=>nu.C.lK 0 43 2 Tryz.f43 YK rl 3 k (nu.l1.p.mk' [.i c1,.i v2,.i c3,.i c4,.l (.sl 42 .sp) c5,.l .gr c6,.i c7,.i c8,.l (.sl 42 .sp) v9]) K)=(fun (v2:Int) (v9:List (List P.S42))=>nu.l1.g YK k K [.i c1,.i v2,.i c3,.i c4,.l (.sl 42 .sp) c5,.l .gr c6,.i c7,.i c8,.l (.sl 42 .sp) v9]):=fH (fun R k v2 v9=>nu.l1T (nu.l1.c YK K c3 c4 c5 c6 c7 c8) c1 c5 R k v2 v9) (by kernel_rfl) (fun k=>by kernel_rfl) (fun k=>by kernel_rfl)
theorem nu.l2.eq {γ:Type} (YK:HdK γ) (rl:Option Nat) (K:dQ→St→Option γ) (c3:Int) (c4:Int) (c5:List (List P.S42)) (c6:List P.S44) (c7:Int) (c8:Int) (c9:List (List P.S42)):∀ k:Nat,(fun (v1:List P.S44) (v2:Int)=>nu.C.lK 0 43 4 Tryz.f43 YK rl 3 k (nu.l2.p.mk' [.l .gr v1,.i v2,.i c3,.i c4,.l (.sl 42 .sp) c5,.l .gr c6,.i c7,.i c8,.l (.sl 42 .sp) c9]) K)=(fun (v1:List P.S44) (v2:Int)=>nu.l2.g YK k K [.l .gr v1,.i v2,.i c3,.i c4,.l (.sl 42 .sp) c5,.l .gr c6,.i c7,.i c8,.l (.sl 42 .sp) c9]):=fH (fun R k v1 v2=>nu.l2T (nu.l2.c YK K c3 c4 c5 c6 c7 c8 c9) c6 c7 c8 c9 R k v1 v2) (by kernel_rfl) (fun k=>by kernel_rfl) (fun k=>by kernel_rfl)
theorem nu.fE {γ:Type}:(nu.C (γ:=γ)).Ok:=⟨(all_cons (fun k=>by kernel_rfl) all_nil),(all_cons (by kernel_rfl) all_nil),all_nil⟩
theorem nu.e0 {γ:Type}:gu (nu.C (γ:=γ)) ⟨0,43,0,iD [(nu.l0.p,nu.l0.g)]⟩:=nu.fE.jT Tryz.f43 [] (by kernel_rfl) (by kernel_rfl) (by kernel_rfl) (all_cons iF (all_cons iF (all_cons iF all_nil))) (all_cons (fun YK rl k ls K v hv=>(show nu.l0.g YK k K ls=some v→_ from fun hv=>by
  unfold nu.l0.g at hv;split at hv
  · exact (congrFun (nu.l0.eq YK rl K _ _ _ _ k) _).trans hv
  · cases hv) hv) all_nil)
theorem nu.e1 {γ:Type}:gu (nu.C (γ:=γ)) ⟨0,43,2,iD [(nu.l1.p,nu.l1.g)]⟩:=nu.fE.jT Tryz.f43 [] (by kernel_rfl) (by kernel_rfl) (by kernel_rfl) (all_cons iF (all_cons iF (all_cons iF all_nil))) (all_cons (fun YK rl k ls K v hv=>(show nu.l1.g YK k K ls=some v→_ from fun hv=>by
  unfold nu.l1.g at hv;split at hv
  · exact (congrFun (congrFun (nu.l1.eq YK rl K _ _ _ _ _ _ _ k) _) _).trans hv
  · cases hv) hv) all_nil)
theorem nu.e2 {γ:Type}:gu (nu.C (γ:=γ)) ⟨0,43,4,iD [(nu.l2.p,nu.l2.g)]⟩:=nu.fE.jT Tryz.f43 [] (by kernel_rfl) (by kernel_rfl) (by kernel_rfl) (all_cons iF (all_cons iF (all_cons iF all_nil))) (all_cons (fun YK rl k ls K v hv=>(show nu.l2.g YK k K ls=some v→_ from fun hv=>by
  unfold nu.l2.g at hv;split at hv
  · exact (congrFun (congrFun (nu.l2.eq YK rl K _ _ _ _ _ _ _ k) _) _).trans hv
  · cases hv) hv) all_nil)
theorem nu.ok (k:Nat):iV Tryz.prog 43 (nu.m k).s:=okW nu.fE 0 Tryz.f43 k all_nil (fun k=>all_cons (agx.ok k) (all_cons (agu.ok k) (all_cons (agJ.ok k) (all_cons (agt.ok k) (all_nil))))) (all_cons ⟨Tryz.func43,by kernel_rfl⟩ all_nil) (all_cons nu.e0 (all_cons nu.e1 (all_cons nu.e2 all_nil))) (by kernel_rfl) (by kernel_rfl) (fun a=>by kernel_rfl)
noncomputable def agq.m (k:Nat):Sm:=jd [(.int .i64),(.int .i64)] [.pl (.int .i64)] (fun a=>agq.f k a.1 a.2.1)
noncomputable def agq.l0.p:PS:=⟨[.one (.i .i64),.one (.i .i64)]++nOs 3++[.one (.i .i64)]++nOs 9,[]⟩
noncomputable def agq.l0.c {γ:Type} (YK:HdK γ) (K:dQ→St→Option γ)  := (fun y1=>K (.exit 0) ((⟨nOs 5++[.one (.i .i64)]++nOs 9,[]⟩:PS).mk' [.i y1]))
noncomputable def agq.l0.g {γ:Type} (YK:HdK γ) (k:Nat) (K:dQ→St→Option γ):List Lf→Option γ
  | [.i c1,.i c2,.i v3]=>agq.l0 (agq.l0.c YK K) c1 c2 k v3
  | _=>none
noncomputable def agq.C {γ:Type}:Ctx γ:=mkC (fun k=>mkE [] []) [(94,Tryz.f94)] [(94,mkA [] [(0,[0,1,5])] [(0,[5])] [])] [⟨0,94,0,iD [(agq.l0.p,agq.l0.g)]⟩] []
theorem agq.l0.eq {γ:Type} (YK:HdK γ) (rl:Option Nat) (K:dQ→St→Option γ) (c1:Int) (c2:Int):∀ k:Nat,(fun (v3:Int)=>agq.C.lK 0 94 0 Tryz.f94 YK rl 0 k (agq.l0.p.mk' [.i c1,.i c2,.i v3]) K)=(fun (v3:Int)=>agq.l0.g YK k K [.i c1,.i c2,.i v3]):=fH (fun R k v3=>agq.l0T (agq.l0.c YK K) c1 c2 R k v3) (by kernel_rfl) (fun k=>by kernel_rfl) (fun k=>by kernel_rfl)
theorem agq.fE {γ:Type}:(agq.C (γ:=γ)).Ok:=⟨(all_cons (fun k=>by kernel_rfl) all_nil),(all_cons (by kernel_rfl) all_nil),all_nil⟩
theorem agq.e0 {γ:Type}:gu (agq.C (γ:=γ)) ⟨0,94,0,iD [(agq.l0.p,agq.l0.g)]⟩:=agq.fE.jT Tryz.f94 [] (by kernel_rfl) (by kernel_rfl) (by kernel_rfl) (all_cons iF all_nil) (all_cons (fun YK rl k ls K v hv=>(show agq.l0.g YK k K ls=some v→_ from fun hv=>by
  unfold agq.l0.g at hv;split at hv
  · exact (congrFun (agq.l0.eq YK rl K _ _ k) _).trans hv
  · cases hv) hv) all_nil)
theorem agq.ok (k:Nat):iV Tryz.prog 94 (agq.m k).s:=okW agq.fE 0 Tryz.f94 k all_nil (fun k=>all_nil) (all_cons ⟨Tryz.func94,by kernel_rfl⟩ all_nil) (all_cons agq.e0 all_nil) (by kernel_rfl) (by kernel_rfl) (fun a=>by kernel_rfl)
noncomputable def agE.m (k:Nat):Sm:=jd [.fm,.fm] [.pl (.int .i64),.pl (.int .i64),.pl (.int .i64)] (fun a=>agE.f k a.1.f0 a.1.f1 a.1.f2 a.1.f3 a.2.1.f0 a.2.1.f1 a.2.1.f2 a.2.1.f3)
noncomputable def agE.C {γ:Type}:Ctx γ:=mkC (fun k=>mkE [(94,agq.m k)] []) [(47,Tryz.f47)] [(47,mkA [] [] [] [])] [] []
theorem agE.fE {γ:Type}:(agE.C (γ:=γ)).Ok:=⟨(all_cons (fun k=>by kernel_rfl) all_nil),(all_cons (by kernel_rfl) all_nil),all_nil⟩
theorem agE.ok (k:Nat):iV Tryz.prog 47 (agE.m k).s:=okW agE.fE 0 Tryz.f47 k all_nil (fun k=>all_cons (agq.ok k) (all_nil)) (all_cons ⟨Tryz.func47,by kernel_rfl⟩ all_nil) all_nil (by kernel_rfl) (by kernel_rfl) (fun a=>by
  obtain ⟨⟨p,c,x,y⟩,b,u⟩:=a;cases c with
  | ofNat n =>
    cases n with
    | zero=>kernel_rfl
    | succ n=>kernel_rfl
  | negSucc n=>kernel_rfl)
noncomputable def agC.m (k:Nat):Sm:=jd [.fm] [.pl .bool] (fun a=>agC.f k a.1.f0 a.1.f1 a.1.f2 a.1.f3)
noncomputable def agC.l0.p:PS:=⟨[nO,.one (.bp 0 0),nO,.one (.i .i64)]++nOs 14,[.box 25 [.i .i64,.i .i64,.s (.sl 42 .sp),.s .gr]]⟩
noncomputable def agC.l0.c {γ:Type} (YK:HdK γ) (K:dQ→St→Option γ) (c2:Int) (c3:Int) (c4:List (List P.S42)) (c5:List P.S44):=((K .ret ((⟨[nO,nO,.one (.lb true)]++nOs 15,[.box 25 [.i .i64,.i .i64,.s (.sl 42 .sp),.s .gr]]⟩:PS).mk' [.i c2,.i c3,.l (.sl 42 .sp) c4,.l .gr c5])),(K (.exit 0) ((⟨nOs 18,[.box 25 [.i .i64,.i .i64,.s (.sl 42 .sp),.s .gr]]⟩:PS).mk' [.i c2,.i c3,.l (.sl 42 .sp) c4,.l .gr c5])))
noncomputable def agC.l0.g {γ:Type} (YK:HdK γ) (k:Nat) (K:dQ→St→Option γ):List Lf→Option γ
  | [.i v1,.i c2,.i c3,.l (.sl 42 .sp) c4,.l .gr c5]=>let q:=agC.l0.c YK K c2 c3 c4 c5;agC.l0 q.1 q.2 c4 k v1
  | _=>none
noncomputable def agC.C {γ:Type}:Ctx γ:=mkC (fun k=>mkE [] []) [(90,Tryz.f90)] [(90,mkA [] [(0,[1,3])] [(0,[2])] [])] [⟨0,90,0,iD [(agC.l0.p,agC.l0.g)]⟩] []
theorem agC.l0.eq {γ:Type} (YK:HdK γ) (rl:Option Nat) (K:dQ→St→Option γ) (c2:Int) (c3:Int) (c4:List (List P.S42)) (c5:List P.S44):∀ k:Nat,(fun (v1:Int)=>agC.C.lK 0 90 0 Tryz.f90 YK rl 1 k (agC.l0.p.mk' [.i v1,.i c2,.i c3,.l (.sl 42 .sp) c4,.l .gr c5]) K)=(fun (v1:Int)=>agC.l0.g YK k K [.i v1,.i c2,.i c3,.l (.sl 42 .sp) c4,.l .gr c5]):=fH (fun R k v1=>agC.l0T (agC.l0.c YK K c2 c3 c4 c5).1 (agC.l0.c YK K c2 c3 c4 c5).2 c4 R k v1) (by kernel_rfl) (fun k=>by kernel_rfl) (fun k=>by kernel_rfl)
theorem agC.fE {γ:Type}:(agC.C (γ:=γ)).Ok:=⟨(all_cons (fun k=>by kernel_rfl) all_nil),(all_cons (by kernel_rfl) all_nil),all_nil⟩
theorem agC.e0 {γ:Type}:gu (agC.C (γ:=γ)) ⟨0,90,0,iD [(agC.l0.p,agC.l0.g)]⟩:=agC.fE.jT Tryz.f90 [] (by kernel_rfl) (by kernel_rfl) (by kernel_rfl) (all_cons iF all_nil) (all_cons (fun YK rl k ls K v hv=>(show agC.l0.g YK k K ls=some v→_ from fun hv=>by
  unfold agC.l0.g at hv;split at hv
  · exact (congrFun (agC.l0.eq YK rl K _ _ _ _ k) _).trans hv
  · cases hv) hv) all_nil)
theorem agC.ok (k:Nat):iV Tryz.prog 90 (agC.m k).s:=okW agC.fE 0 Tryz.f90 k all_nil (fun k=>all_nil) (all_cons ⟨Tryz.func90,by kernel_rfl⟩ all_nil) (all_cons agC.e0 all_nil) (by kernel_rfl) (by kernel_rfl) (fun a=>by kernel_rfl)
noncomputable def agO.m (k:Nat):Sm:=jd [.fm,.fm] [.pl .bool,.pl (.int .i64)] (fun a=>agO.f k a.1.f0 a.1.f1 a.1.f2 a.1.f3 a.2.1.f0 a.2.1.f1 a.2.1.f2 a.2.1.f3)
noncomputable def agO.C {γ:Type}:Ctx γ:=mkC (fun k=>mkE [(47,agE.m k),(90,agC.m k)] []) [(44,Tryz.f44)] [(44,mkA [] [] [] [])] [] []
theorem agO.fE {γ:Type}:(agO.C (γ:=γ)).Ok:=⟨(all_cons (fun k=>by kernel_rfl) all_nil),(all_cons (by kernel_rfl) all_nil),all_nil⟩
theorem agO.ok (k:Nat):iV Tryz.prog 44 (agO.m k).s:=okW agO.fE 0 Tryz.f44 k all_nil (fun k=>all_cons (agE.ok k) (all_cons (agC.ok k) (all_nil))) (all_cons ⟨Tryz.func44,by kernel_rfl⟩ all_nil) all_nil (by kernel_rfl) (by kernel_rfl) (fun a=>by kernel_rfl)
noncomputable def agA.m (k:Nat):Sm:=jd [.fm,(.int .i64)] [.pl (.sl 42 .sp),.pl (.int .i64)] (fun a=>agA.f k a.1.f0 a.1.f1 a.1.f2 a.1.f3 a.2.1)
noncomputable def agA.l0.p:PS:=⟨[nO,.one (.i .i64),.one (.bp 0 0)]++nOs 3++[.one (.i .i64)]++nOs 39,[.box 25 [.i .i64,.i .i64,.s (.sl 42 .sp),.s .gr]]⟩
noncomputable def agA.l0.c {γ:Type} (YK:HdK γ) (K:dQ→St→Option γ) (c1:Int) (c3:Int) (c4:Int) (c5:List (List P.S42)) (c6:List P.S44):=((fun y1=>K .ret ((⟨[nO,.one (.i .i64),.one (.bp 0 0),nO,.one (.s .sp),.one (.li .i64 0)]++nOs 40,[.box 25 [.i .i64,.i .i64,.s (.sl 42 .sp),.s .gr]]⟩:PS).mk' [.i c1,.l .sp y1,.i c3,.i c4,.l (.sl 42 .sp) c5,.l .gr c6])),(K (.exit 0) ((⟨[nO,.one (.i .i64),.one (.bp 0 0)]++nOs 43,[.box 25 [.i .i64,.i .i64,.s (.sl 42 .sp),.s .gr]]⟩:PS).mk' [.i c1,.i c3,.i c4,.l (.sl 42 .sp) c5,.l .gr c6])))
noncomputable def agA.l0.g {γ:Type} (YK:HdK γ) (k:Nat) (K:dQ→St→Option γ):List Lf→Option γ
  | [.i c1,.i v2,.i c3,.i c4,.l (.sl 42 .sp) c5,.l .gr c6]=>let q:=agA.l0.c YK K c1 c3 c4 c5 c6;agA.l0 q.1 q.2 c1 c6 k v2
  | _=>none
noncomputable def agA.C {γ:Type}:Ctx γ:=mkC (fun k=>mkE [(95,agG.m k)] []) [(91,Tryz.f91)] [(91,mkA [] [(0,[1,2,6])] [(0,[1,2,4,5])] [])] [⟨0,91,0,iD [(agA.l0.p,agA.l0.g)]⟩] []
theorem agA.l0.eq {γ:Type} (YK:HdK γ) (rl:Option Nat) (K:dQ→St→Option γ) (c1:Int) (c3:Int) (c4:Int) (c5:List (List P.S42)) (c6:List P.S44):∀ k:Nat,(fun (v2:Int)=>agA.C.lK 0 91 0 Tryz.f91 YK rl 1 k (agA.l0.p.mk' [.i c1,.i v2,.i c3,.i c4,.l (.sl 42 .sp) c5,.l .gr c6]) K)=(fun (v2:Int)=>agA.l0.g YK k K [.i c1,.i v2,.i c3,.i c4,.l (.sl 42 .sp) c5,.l .gr c6]):=fH (fun R k v2=>agA.l0T (agA.l0.c YK K c1 c3 c4 c5 c6).1 (agA.l0.c YK K c1 c3 c4 c5 c6).2 c1 c6 R k v2) (by kernel_rfl) (fun k=>by kernel_rfl) (fun k=>by kernel_rfl)
theorem agA.fE {γ:Type}:(agA.C (γ:=γ)).Ok:=⟨(all_cons (fun k=>by kernel_rfl) all_nil),(all_cons (by kernel_rfl) all_nil),all_nil⟩
theorem agA.e0 {γ:Type}:gu (agA.C (γ:=γ)) ⟨0,91,0,iD [(agA.l0.p,agA.l0.g)]⟩:=agA.fE.jT Tryz.f91 [] (by kernel_rfl) (by kernel_rfl) (by kernel_rfl) (all_cons iF all_nil) (all_cons (fun YK rl k ls K v hv=>(show agA.l0.g YK k K ls=some v→_ from fun hv=>by
  unfold agA.l0.g at hv;split at hv
  · exact (congrFun (agA.l0.eq YK rl K _ _ _ _ _ k) _).trans hv
  · cases hv) hv) all_nil)
theorem agA.ok (k:Nat):iV Tryz.prog 91 (agA.m k).s:=okW agA.fE 0 Tryz.f91 k all_nil (fun k=>all_cons (agG.ok k) (all_nil)) (all_cons ⟨Tryz.func91,by kernel_rfl⟩ all_nil) (all_cons agA.e0 all_nil) (by kernel_rfl) (by kernel_rfl) (fun a=>by kernel_rfl)
noncomputable def agy.m (k:Nat):Sm:=jd [(.sl 42 .sp),(.int .i64)] [.own 42 .sp,.pl (.int .i64)] (fun a=>agy.f k a.1 a.2.1)
noncomputable def agy.l0.p:PS:=⟨[.one (.s .sp),.one (.i .i64)]++nOs 4++[.one (.o 42 .sp),.one (.i .i64)]++nOs 43,[]⟩
noncomputable def agy.l0.c {γ:Type} (YK:HdK γ) (K:dQ→St→Option γ)  := ((fun y1=>K .ret ((⟨nOs 4++[.one (.lo 42 .sp),.one (.li .i64 20),.one (.o 42 .sp)]++nOs 44,[]⟩:PS).mk' [.l .sp y1])),(fun y1=>K (.exit 0) ((⟨nOs 6++[.one (.o 42 .sp)]++nOs 44,[]⟩:PS).mk' [.l .sp y1])))
noncomputable def agy.l0.g {γ:Type} (YK:HdK γ) (k:Nat) (K:dQ→St→Option γ):List Lf→Option γ
  | [.l .sp c1,.i c2,.l .sp v3,.i v4]=>let q:=agy.l0.c YK K;agy.l0 q.1 q.2 c1 c2 k v3 v4
  | _=>none
noncomputable def agy.C {γ:Type}:Ctx γ:=mkC (fun k=>mkE [] []) [(92,Tryz.f92)] [(92,mkA [32,50] [(0,[0,1,6,7])] [(0,[4,5,6])] [])] [⟨0,92,0,iD [(agy.l0.p,agy.l0.g)]⟩] []
theorem agy.l0.eq {γ:Type} (YK:HdK γ) (rl:Option Nat) (K:dQ→St→Option γ) (c1:List P.S42) (c2:Int):∀ k:Nat,(fun (v3:List P.S42) (v4:Int)=>agy.C.lK 0 92 0 Tryz.f92 YK rl 0 k (agy.l0.p.mk' [.l .sp c1,.i c2,.l .sp v3,.i v4]) K)=(fun (v3:List P.S42) (v4:Int)=>agy.l0.g YK k K [.l .sp c1,.i c2,.l .sp v3,.i v4]):=fH (fun R k v3 v4=>agy.l0T (agy.l0.c YK K).1 (agy.l0.c YK K).2 c1 c2 R k v3 v4) (by kernel_rfl) (fun k=>by kernel_rfl) (fun k=>by kernel_rfl)
theorem agy.fE {γ:Type}:(agy.C (γ:=γ)).Ok:=⟨(all_cons (fun k=>by kernel_rfl) all_nil),(all_cons (by kernel_rfl) all_nil),all_nil⟩
theorem agy.e0 {γ:Type}:gu (agy.C (γ:=γ)) ⟨0,92,0,iD [(agy.l0.p,agy.l0.g)]⟩:=agy.fE.jT Tryz.f92 [] (by kernel_rfl) (by kernel_rfl) (by kernel_rfl) (all_cons iF all_nil) (all_cons (fun YK rl k ls K v hv=>(show agy.l0.g YK k K ls=some v→_ from fun hv=>by
  unfold agy.l0.g at hv;split at hv
  · exact (congrFun (congrFun (agy.l0.eq YK rl K _ _ k) _) _).trans hv
  · cases hv) hv) all_nil)
theorem agy.ok (k:Nat):iV Tryz.prog 92 (agy.m k).s:=okW agy.fE 0 Tryz.f92 k all_nil (fun k=>all_nil) (all_cons ⟨Tryz.func92,by kernel_rfl⟩ all_nil) (all_cons agy.e0 all_nil) (by kernel_rfl) (by kernel_rfl) (fun a=>by kernel_rfl)
noncomputable def agF.m (k:Nat):Sm:=jd [.fm,(.int .i64)] [.own 42 .sp,.pl (.int .i64)] (fun a=>agF.f k a.1.f0 a.1.f1 a.1.f2 a.1.f3 a.2.1)
noncomputable def agF.C {γ:Type}:Ctx γ:=mkC (fun k=>mkE [(91,agA.m k),(92,agy.m k)] []) [(45,Tryz.f45)] [(45,mkA [50] [] [] [])] [] []
theorem agF.fE {γ:Type}:(agF.C (γ:=γ)).Ok:=⟨(all_cons (fun k=>by kernel_rfl) all_nil),(all_cons (by kernel_rfl) all_nil),all_nil⟩
theorem agF.ok (k:Nat):iV Tryz.prog 45 (agF.m k).s:=okW agF.fE 0 Tryz.f45 k all_nil (fun k=>all_cons (agA.ok k) (all_cons (agy.ok k) (all_nil))) (all_cons ⟨Tryz.func45,by kernel_rfl⟩ all_nil) all_nil (by kernel_rfl) (by kernel_rfl) (fun a=>by kernel_rfl)
end Go.Proofs.YtcomnjodjijcmaaGreat.R
namespace Go.Proofs.YtcomnjodjijcmaaGreat.R
open M Go.RowKit Go.Proofs.YtcomnjodjijcmaaGreatW.dz Go.Proofs.YtcomnjodjijcmaaGreatW.dX Go.Proofs.YtcomnjodjijcmaaGreatW.eD
set_option linter.unusedVariables false
noncomputable def afA.m (k:Nat):Sm:=jd [(.sl 3 (.int .i64)),(.int .i64)] [.own 3 (.int .i64)] (fun a=>afA.f k a.1 a.2.1)
noncomputable def afA.l0.p:PS:=⟨[.one (.s (.int .i64)),.one (.i .i64)]++nOs 3++[.one (.o 3 (.int .i64)),.one (.b),.one (.i .i64)]++nOs 40,[]⟩
noncomputable def afA.l0.c {γ:Type} (YK:HdK γ) (K:dQ→St→Option γ) (c2:Int):=(fun y1 y2=>K (.exit 0) ((⟨[nO,.one (.i .i64)]++nOs 3++[.one (.o 3 (.int .i64)),.one (.b)]++nOs 41,[]⟩:PS).mk' [.i c2,.l (.int .i64) y1,.b y2]))
noncomputable def afA.l0.g {γ:Type} (YK:HdK γ) (k:Nat) (K:dQ→St→Option γ):List Lf→Option γ
  | [.l (.int .i64) c1,.i c2,.l (.int .i64) v3,.b v4,.i v5]=>afA.l0 (afA.l0.c YK K c2) c1 c2 k v3 v4 v5
  | _=>none
noncomputable def afA.C {γ:Type}:Ctx γ:=mkC (fun k=>mkE [] []) [(169,Tryz.f169)] [(169,mkA [30,34,43,47] [(0,[0,1,5,6,7])] [(0,[1,5,6])] [])] [⟨0,169,0,iD [(afA.l0.p,afA.l0.g)]⟩] []
theorem afA.l0.eq {γ:Type} (YK:HdK γ) (rl:Option Nat) (K:dQ→St→Option γ) (c1:List Int) (c2:Int):∀ k:Nat,(fun (v3:List Int) (v4:Bool) (v5:Int)=>afA.C.lK 0 169 0 Tryz.f169 YK rl 0 k (afA.l0.p.mk' [.l (.int .i64) c1,.i c2,.l (.int .i64) v3,.b v4,.i v5]) K)=(fun (v3:List Int) (v4:Bool) (v5:Int)=>afA.l0.g YK k K [.l (.int .i64) c1,.i c2,.l (.int .i64) v3,.b v4,.i v5]):=fH (fun R k v3 v4 v5=>afA.l0T (afA.l0.c YK K c2) c1 c2 R k v3 v4 v5) (by kernel_rfl) (fun k=>by kernel_rfl) (fun k=>by kernel_rfl)
theorem afA.fE {γ:Type}:(afA.C (γ:=γ)).Ok:=⟨(all_cons (fun k=>by kernel_rfl) all_nil),(all_cons (by kernel_rfl) all_nil),all_nil⟩
theorem afA.e0 {γ:Type}:gu (afA.C (γ:=γ)) ⟨0,169,0,iD [(afA.l0.p,afA.l0.g)]⟩:=afA.fE.jT Tryz.f169 [] (by kernel_rfl) (by kernel_rfl) (by kernel_rfl) (all_cons iF all_nil) (all_cons (fun YK rl k ls K v hv=>(show afA.l0.g YK k K ls=some v→_ from fun hv=>by
  unfold afA.l0.g at hv;split at hv
  · exact (congrFun (congrFun (congrFun (afA.l0.eq YK rl K _ _ k) _) _) _).trans hv
  · cases hv) hv) all_nil)
theorem afA.ok (k:Nat):iV Tryz.prog 169 (afA.m k).s:=okW afA.fE 0 Tryz.f169 k all_nil (fun k=>all_nil) (all_cons ⟨Tryz.func169,by kernel_rfl⟩ all_nil) (all_cons afA.e0 all_nil) (by kernel_rfl) (by kernel_rfl) (fun a=>by kernel_rfl)
noncomputable def aes.m (k:Nat):Sm:=jd [(.sl 42 .sp),(.sl 42 .sp)] [.own 3 (.int .i64)] (fun a=>aes.f k a.1 a.2.1)
noncomputable def aes.l0.p:PS:=⟨[.one (.s .sp),.one (.s .sp)]++nOs 3++[.one (.o 3 (.int .i64)),.one (.i .i64)]++nOs 42,[]⟩
noncomputable def aes.l0.c {γ:Type} (YK:HdK γ) (K:dQ→St→Option γ) (c2:List P.S42):=(fun y1=>K (.exit 0) ((⟨[nO,.one (.s .sp)]++nOs 3++[.one (.o 3 (.int .i64))]++nOs 43,[]⟩:PS).mk' [.l .sp c2,.l (.int .i64) y1]))
noncomputable def aes.l0.g {γ:Type} (YK:HdK γ) (k:Nat) (K:dQ→St→Option γ):List Lf→Option γ
  | [.l .sp c1,.l .sp c2,.l (.int .i64) v3,.i v4]=>aes.l0 (aes.l0.c YK K c2) c1 k v3 v4
  | _=>none
noncomputable def aes.l1.p:PS:=⟨[nO,.one (.s .sp)]++nOs 3++[.one (.o 3 (.int .i64)),nO,.one (.i .i64)]++nOs 41,[]⟩
noncomputable def aes.l1.c {γ:Type} (YK:HdK γ) (K:dQ→St→Option γ)  := (fun y1=>K (.exit 2) ((⟨nOs 5++[.one (.o 3 (.int .i64))]++nOs 43,[]⟩:PS).mk' [.l (.int .i64) y1]))
noncomputable def aes.l1.g {γ:Type} (YK:HdK γ) (k:Nat) (K:dQ→St→Option γ):List Lf→Option γ
  | [.l .sp c1,.l (.int .i64) v2,.i v3]=>aes.l1 (aes.l1.c YK K) c1 k v2 v3
  | _=>none
noncomputable def aes.C {γ:Type}:Ctx γ:=mkC (fun k=>mkE [(169,afA.m k)] []) [(134,Tryz.f134)] [(134,mkA [48] [(0,[0,1,5,6]),(2,[1,5,7])] [(0,[1,5]),(2,[5])] [])] [⟨0,134,0,iD [(aes.l0.p,aes.l0.g)]⟩,⟨0,134,2,iD [(aes.l1.p,aes.l1.g)]⟩] []
theorem aes.l0.eq {γ:Type} (YK:HdK γ) (rl:Option Nat) (K:dQ→St→Option γ) (c1:List P.S42) (c2:List P.S42):∀ k:Nat,(fun (v3:List Int) (v4:Int)=>aes.C.lK 0 134 0 Tryz.f134 YK rl 0 k (aes.l0.p.mk' [.l .sp c1,.l .sp c2,.l (.int .i64) v3,.i v4]) K)=(fun (v3:List Int) (v4:Int)=>aes.l0.g YK k K [.l .sp c1,.l .sp c2,.l (.int .i64) v3,.i v4]):=fH (fun R k v3 v4=>aes.l0T (aes.l0.c YK K c2) c1 R k v3 v4) (by kernel_rfl) (fun k=>by kernel_rfl) (fun k=>by kernel_rfl)
theorem aes.l1.eq {γ:Type} (YK:HdK γ) (rl:Option Nat) (K:dQ→St→Option γ) (c1:List P.S42):∀ k:Nat,(fun (v2:List Int) (v3:Int)=>aes.C.lK 0 134 2 Tryz.f134 YK rl 0 k (aes.l1.p.mk' [.l .sp c1,.l (.int .i64) v2,.i v3]) K)=(fun (v2:List Int) (v3:Int)=>aes.l1.g YK k K [.l .sp c1,.l (.int .i64) v2,.i v3]):=fH (fun R k v2 v3=>aes.l1T (aes.l1.c YK K) c1 R k v2 v3) (by kernel_rfl) (fun k=>by kernel_rfl) (fun k=>by kernel_rfl)
theorem aes.fE {γ:Type}:(aes.C (γ:=γ)).Ok:=⟨(all_cons (fun k=>by kernel_rfl) all_nil),(all_cons (by kernel_rfl) all_nil),all_nil⟩
theorem aes.e0 {γ:Type}:gu (aes.C (γ:=γ)) ⟨0,134,0,iD [(aes.l0.p,aes.l0.g)]⟩:=aes.fE.jT Tryz.f134 [] (by kernel_rfl) (by kernel_rfl) (by kernel_rfl) (all_cons iF (all_cons iF all_nil)) (all_cons (fun YK rl k ls K v hv=>(show aes.l0.g YK k K ls=some v→_ from fun hv=>by
  unfold aes.l0.g at hv;split at hv
  · exact (congrFun (congrFun (aes.l0.eq YK rl K _ _ k) _) _).trans hv
  · cases hv) hv) all_nil)
theorem aes.e1 {γ:Type}:gu (aes.C (γ:=γ)) ⟨0,134,2,iD [(aes.l1.p,aes.l1.g)]⟩:=aes.fE.jT Tryz.f134 [] (by kernel_rfl) (by kernel_rfl) (by kernel_rfl) (all_cons iF (all_cons iF all_nil)) (all_cons (fun YK rl k ls K v hv=>(show aes.l1.g YK k K ls=some v→_ from fun hv=>by
  unfold aes.l1.g at hv;split at hv
  · exact (congrFun (congrFun (aes.l1.eq YK rl K _ k) _) _).trans hv
  · cases hv) hv) all_nil)
theorem aes.ok (k:Nat):iV Tryz.prog 134 (aes.m k).s:=okW aes.fE 0 Tryz.f134 k all_nil (fun k=>all_cons (afA.ok k) (all_nil)) (all_cons ⟨Tryz.func134,by kernel_rfl⟩ all_nil) (all_cons aes.e0 (all_cons aes.e1 all_nil)) (by kernel_rfl) (by kernel_rfl) (fun a=>by kernel_rfl)
noncomputable def agU.m (k:Nat):Sm:=jd [(.int .i64),.bool,.bool] [.pl .bool] (fun a=>agU.f k a.1 a.2.1 a.2.2.1)
noncomputable def agU.C {γ:Type}:Ctx γ:=mkC (fun k=>mkE [] []) [(135,Tryz.f135)] [(135,mkA [] [] [] [])] [] []
theorem agU.fE {γ:Type}:(agU.C (γ:=γ)).Ok:=⟨(all_cons (fun k=>by kernel_rfl) all_nil),(all_cons (by kernel_rfl) all_nil),all_nil⟩
theorem agU.ok (k:Nat):iV Tryz.prog 135 (agU.m k).s:=okW agU.fE 0 Tryz.f135 k all_nil (fun k=>all_nil) (all_cons ⟨Tryz.func135,by kernel_rfl⟩ all_nil) all_nil (by kernel_rfl) (by kernel_rfl) (fun a=>by kernel_rfl)
noncomputable def agB.m (k:Nat):Sm:=jd [(.sl 42 .sp),(.int .i64)] [.pl .bool] (fun a=>agB.f k a.1 a.2.1)
noncomputable def agB.l0.p:PS:=⟨[.one (.s .sp),.one (.i .i64)]++nOs 3++[.one (.i .i64)]++nOs 22,[]⟩
noncomputable def agB.l0.c {γ:Type} (YK:HdK γ) (K:dQ→St→Option γ)  := ((K .ret ((⟨nOs 4++[.one (.lb true)]++nOs 23,[]⟩:PS).mk' [])),(K (.exit 0) ((⟨nOs 28,[]⟩:PS).mk' [])))
noncomputable def agB.l0.g {γ:Type} (YK:HdK γ) (k:Nat) (K:dQ→St→Option γ):List Lf→Option γ
  | [.l .sp c1,.i c2,.i v3]=>let q:=agB.l0.c YK K;agB.l0 q.1 q.2 c1 c2 k v3
  | _=>none
noncomputable def agB.C {γ:Type}:Ctx γ:=mkC (fun k=>mkE [] []) [(136,Tryz.f136)] [(136,mkA [] [(0,[0,1,5])] [(0,[4])] [])] [⟨0,136,0,iD [(agB.l0.p,agB.l0.g)]⟩] []
theorem agB.l0.eq {γ:Type} (YK:HdK γ) (rl:Option Nat) (K:dQ→St→Option γ) (c1:List P.S42) (c2:Int):∀ k:Nat,(fun (v3:Int)=>agB.C.lK 0 136 0 Tryz.f136 YK rl 0 k (agB.l0.p.mk' [.l .sp c1,.i c2,.i v3]) K)=(fun (v3:Int)=>agB.l0.g YK k K [.l .sp c1,.i c2,.i v3]):=fH (fun R k v3=>agB.l0T (agB.l0.c YK K).1 (agB.l0.c YK K).2 c1 c2 R k v3) (by kernel_rfl) (fun k=>by kernel_rfl) (fun k=>by kernel_rfl)
theorem agB.fE {γ:Type}:(agB.C (γ:=γ)).Ok:=⟨(all_cons (fun k=>by kernel_rfl) all_nil),(all_cons (by kernel_rfl) all_nil),all_nil⟩
theorem agB.e0 {γ:Type}:gu (agB.C (γ:=γ)) ⟨0,136,0,iD [(agB.l0.p,agB.l0.g)]⟩:=agB.fE.jT Tryz.f136 [] (by kernel_rfl) (by kernel_rfl) (by kernel_rfl) (all_cons iF all_nil) (all_cons (fun YK rl k ls K v hv=>(show agB.l0.g YK k K ls=some v→_ from fun hv=>by
  unfold agB.l0.g at hv;split at hv
  · exact (congrFun (agB.l0.eq YK rl K _ _ k) _).trans hv
  · cases hv) hv) all_nil)
theorem agB.ok (k:Nat):iV Tryz.prog 136 (agB.m k).s:=okW agB.fE 0 Tryz.f136 k all_nil (fun k=>all_nil) (all_cons ⟨Tryz.func136,by kernel_rfl⟩ all_nil) (all_cons agB.e0 all_nil) (by kernel_rfl) (by kernel_rfl) (fun a=>by kernel_rfl)
noncomputable def agD.m (k:Nat):Sm:=jd [(.int .i64),(.sl 42 .sp),(.sl 42 .sp)] [.own 42 .sp] (fun a=>agD.f k a.1 a.2.1 a.2.2.1)
noncomputable def agD.l0.p:PS:=⟨[.one (.i .i64),.one (.s .sp),.one (.s .sp)]++nOs 4++[.one (.o 3 (.int .i64)),.one (.mu 42 .sp),.one (.i .i64)]++nOs 70,[]⟩
noncomputable def agD.l0.c {γ:Type} (YK:HdK γ) (K:dQ→St→Option γ)  := (fun y1=>K (.exit 0) ((⟨nOs 8++[.one (.mu 42 .sp)]++nOs 71,[]⟩:PS).mk' [.l .sp y1]))
noncomputable def agD.l0.g {γ:Type} (YK:HdK γ) (k:Nat) (K:dQ→St→Option γ):List Lf→Option γ
  | [.i c1,.l .sp c2,.l .sp c3,.l (.int .i64) c4,.l .sp v5,.i v6]=>agD.l0 (agD.l0.c YK K) c1 c2 c3 c4 k v5 v6
  | _=>none
noncomputable def agD.C {γ:Type}:Ctx γ:=mkC (fun k=>mkE [(134,aes.m k),(135,agU.m k),(136,agB.m k)] []) [(93,Tryz.f93)] [(93,mkA [65,79] [(0,[0,1,2,7,8,9])] [(0,[8])] [(3,[.mu (.tm 8)],[]),(7,[.op (.tm 8)],[.cl (.tm 8)]),(8,[.op (.tm 8)],[.cl (.tm 8)]),(10,[.fz (.tm 8)],[])])] [⟨0,93,0,iD [(agD.l0.p,agD.l0.g)]⟩] []
theorem agD.l0.eq {γ:Type} (YK:HdK γ) (rl:Option Nat) (K:dQ→St→Option γ) (c1:Int) (c2:List P.S42) (c3:List P.S42) (c4:List Int):∀ k:Nat,(fun (v5:List P.S42) (v6:Int)=>agD.C.lK 0 93 0 Tryz.f93 YK rl 0 k (agD.l0.p.mk' [.i c1,.l .sp c2,.l .sp c3,.l (.int .i64) c4,.l .sp v5,.i v6]) K)=(fun (v5:List P.S42) (v6:Int)=>agD.l0.g YK k K [.i c1,.l .sp c2,.l .sp c3,.l (.int .i64) c4,.l .sp v5,.i v6]):=fH (fun R k v5 v6=>agD.l0T (agD.l0.c YK K) c1 c2 c3 c4 R k v5 v6) (by kernel_rfl) (fun k=>by kernel_rfl) (fun k=>by kernel_rfl)
theorem agD.fE {γ:Type}:(agD.C (γ:=γ)).Ok:=⟨(all_cons (fun k=>by kernel_rfl) all_nil),(all_cons (by kernel_rfl) all_nil),all_nil⟩
theorem agD.e0 {γ:Type}:gu (agD.C (γ:=γ)) ⟨0,93,0,iD [(agD.l0.p,agD.l0.g)]⟩:=agD.fE.jT Tryz.f93 [] (by kernel_rfl) (by kernel_rfl) (by kernel_rfl) (all_cons iF all_nil) (all_cons (fun YK rl k ls K v hv=>(show agD.l0.g YK k K ls=some v→_ from fun hv=>by
  unfold agD.l0.g at hv;split at hv
  · exact (congrFun (congrFun (agD.l0.eq YK rl K _ _ _ _ k) _) _).trans hv
  · cases hv) hv) all_nil)
theorem agD.ok (k:Nat):iV Tryz.prog 93 (agD.m k).s:=okW agD.fE 0 Tryz.f93 k all_nil (fun k=>all_cons (aes.ok k) (all_cons (agU.ok k) (all_cons (agB.ok k) (all_nil)))) (all_cons ⟨Tryz.func93,by kernel_rfl⟩ all_nil) (all_cons agD.e0 all_nil) (by kernel_rfl) (by kernel_rfl) (fun a=>by kernel_rfl)
noncomputable def agM.m (k:Nat):Sm:=jd [(.sl 42 .sp),(.sl 42 .sp)] [.pl .bool] (fun a=>agM.f k a.1 a.2.1)
noncomputable def agM.C {γ:Type}:Ctx γ:=mkC (fun k=>mkE [(93,agD.m k)] []) [(46,Tryz.f46)] [(46,mkA [] [] [] [])] [] []
theorem agM.fE {γ:Type}:(agM.C (γ:=γ)).Ok:=⟨(all_cons (fun k=>by kernel_rfl) all_nil),(all_cons (by kernel_rfl) all_nil),all_nil⟩
theorem agM.ok (k:Nat):iV Tryz.prog 46 (agM.m k).s:=okW agM.fE 0 Tryz.f46 k all_nil (fun k=>all_cons (agD.ok k) (all_nil)) (all_cons ⟨Tryz.func46,by kernel_rfl⟩ all_nil) all_nil (by kernel_rfl) (by kernel_rfl) (fun a=>by kernel_rfl)
noncomputable def ags.m (k:Nat):Sm:=jd [.fm,.fm] [.pl .bool,.pl (.int .i64)] (fun a=>ags.f k a.1.f0 a.1.f1 a.1.f2 a.1.f3 a.2.1.f0 a.2.1.f1 a.2.1.f2 a.2.1.f3)
noncomputable def ags.l0.p:PS:=⟨[nO,nO,.one (.bp 0 0),.one (.bp 1 0)]++nOs 4++[.one (.i .i64)]++nOs 49,[.box 25 [.i .i64,.i .i64,.s (.sl 42 .sp),.s .gr],.box 25 [.i .i64,.i .i64,.s (.sl 42 .sp),.s .gr]]⟩
noncomputable def ags.l0.c {γ:Type} (YK:HdK γ) (K:dQ→St→Option γ) (c2:Int) (c3:Int) (c4:List (List P.S42)) (c5:List P.S44) (c6:Int) (c7:Int) (c8:List (List P.S42)) (c9:List P.S44):=((K .ret ((⟨nOs 4++[.one (.lb false),.one (.li .i64 0)]++nOs 52,[.box 25 [.i .i64,.i .i64,.s (.sl 42 .sp),.s .gr],.box 25 [.i .i64,.i .i64,.s (.sl 42 .sp),.s .gr]]⟩:PS).mk' [.i c2,.i c3,.l (.sl 42 .sp) c4,.l .gr c5,.i c6,.i c7,.l (.sl 42 .sp) c8,.l .gr c9])),(K (.exit 0) ((⟨nOs 58,[.box 25 [.i .i64,.i .i64,.s (.sl 42 .sp),.s .gr],.box 25 [.i .i64,.i .i64,.s (.sl 42 .sp),.s .gr]]⟩:PS).mk' [.i c2,.i c3,.l (.sl 42 .sp) c4,.l .gr c5,.i c6,.i c7,.l (.sl 42 .sp) c8,.l .gr c9])))
noncomputable def ags.l0.g {γ:Type} (YK:HdK γ) (k:Nat) (K:dQ→St→Option γ):List Lf→Option γ
  | [.i v1,.i c2,.i c3,.l (.sl 42 .sp) c4,.l .gr c5,.i c6,.i c7,.l (.sl 42 .sp) c8,.l .gr c9]=>let q:=ags.l0.c YK K c2 c3 c4 c5 c6 c7 c8 c9;ags.l0 q.1 q.2 c2 c3 c4 c5 c6 c7 c8 c9 k v1
  | _=>none
noncomputable def ags.C {γ:Type}:Ctx γ:=mkC (fun k=>mkE [(43,nu.m k),(44,agO.m k),(45,agF.m k),(46,agM.m k)] []) [(17,Tryz.f17)] [(17,mkA [] [(0,[2,3,8])] [(0,[4,5])] [])] [⟨0,17,0,iD [(ags.l0.p,ags.l0.g)]⟩] []
theorem ags.l0.eq {γ:Type} (YK:HdK γ) (rl:Option Nat) (K:dQ→St→Option γ) (c2:Int) (c3:Int) (c4:List (List P.S42)) (c5:List P.S44) (c6:Int) (c7:Int) (c8:List (List P.S42)) (c9:List P.S44):∀ k:Nat,(fun (v1:Int)=>ags.C.lK 0 17 0 Tryz.f17 YK rl 2 k (ags.l0.p.mk' [.i v1,.i c2,.i c3,.l (.sl 42 .sp) c4,.l .gr c5,.i c6,.i c7,.l (.sl 42 .sp) c8,.l .gr c9]) K)=(fun (v1:Int)=>ags.l0.g YK k K [.i v1,.i c2,.i c3,.l (.sl 42 .sp) c4,.l .gr c5,.i c6,.i c7,.l (.sl 42 .sp) c8,.l .gr c9]):=fH (fun R k v1=>ags.l0T (ags.l0.c YK K c2 c3 c4 c5 c6 c7 c8 c9).1 (ags.l0.c YK K c2 c3 c4 c5 c6 c7 c8 c9).2 c2 c3 c4 c5 c6 c7 c8 c9 R k v1) (by kernel_rfl) (fun k=>by kernel_rfl) (fun k=>by kernel_rfl)
theorem ags.fE {γ:Type}:(ags.C (γ:=γ)).Ok:=⟨(all_cons (fun k=>by kernel_rfl) all_nil),(all_cons (by kernel_rfl) all_nil),all_nil⟩
theorem ags.e0 {γ:Type}:gu (ags.C (γ:=γ)) ⟨0,17,0,iD [(ags.l0.p,ags.l0.g)]⟩:=ags.fE.jT Tryz.f17 [] (by kernel_rfl) (by kernel_rfl) (by kernel_rfl) (all_cons iF all_nil) (all_cons (fun YK rl k ls K v hv=>(show ags.l0.g YK k K ls=some v→_ from fun hv=>by
  unfold ags.l0.g at hv;split at hv
  · exact (congrFun (ags.l0.eq YK rl K _ _ _ _ _ _ _ _ k) _).trans hv
  · cases hv) hv) all_nil)
theorem ags.ok (k:Nat):iV Tryz.prog 17 (ags.m k).s:=okW ags.fE 0 Tryz.f17 k all_nil (fun k=>all_cons (nu.ok k) (all_cons (agO.ok k) (all_cons (agF.ok k) (all_cons (agM.ok k) (all_nil))))) (all_cons ⟨Tryz.func17,by kernel_rfl⟩ all_nil) (all_cons ags.e0 all_nil) (by kernel_rfl) (by kernel_rfl) (fun a=>by kernel_rfl)
noncomputable def agQ.m (k:Nat):Sm:=jd [.fm,(.int .i64)] [.own 42 .sp,.pl (.int .i64)] (fun a=>agQ.f k a.1.f0 a.1.f1 a.1.f2 a.1.f3 a.2.1)
noncomputable def agQ.C {γ:Type}:Ctx γ:=mkC (fun k=>mkE [(92,agy.m k),(95,agG.m k)] []) [(48,Tryz.f48)] [(48,mkA [47] [] [] [])] [] []
theorem agQ.fE {γ:Type}:(agQ.C (γ:=γ)).Ok:=⟨(all_cons (fun k=>by kernel_rfl) all_nil),(all_cons (by kernel_rfl) all_nil),all_nil⟩
theorem agQ.ok (k:Nat):iV Tryz.prog 48 (agQ.m k).s:=okW agQ.fE 0 Tryz.f48 k all_nil (fun k=>all_cons (agy.ok k) (all_cons (agG.ok k) (all_nil))) (all_cons ⟨Tryz.func48,by kernel_rfl⟩ all_nil) all_nil (by kernel_rfl) (by kernel_rfl) (fun a=>by kernel_rfl)
noncomputable def agP.m (k:Nat):Sm:=jd [.fm] [.pl .fm] (fun a=>agP.f k a.1.f0 a.1.f1 a.1.f2 a.1.f3)
noncomputable def agP.C {γ:Type}:Ctx γ:=mkC (fun k=>mkE [] []) [(49,Tryz.f49)] [(49,mkA [] [] [] [])] [] []
theorem agP.fE {γ:Type}:(agP.C (γ:=γ)).Ok:=⟨(all_cons (fun k=>by kernel_rfl) all_nil),(all_cons (by kernel_rfl) all_nil),all_nil⟩
theorem agP.ok (k:Nat):iV Tryz.prog 49 (agP.m k).s:=okW agP.fE 0 Tryz.f49 k all_nil (fun k=>all_nil) (all_cons ⟨Tryz.func49,by kernel_rfl⟩ all_nil) all_nil (by kernel_rfl) (by kernel_rfl) (fun a=>by kernel_rfl)
noncomputable def agK.m (k:Nat):Sm:=jd [(.int .i64),(.sl 42 .sp),(.sl 42 .sp)] [.pl (.sl 42 .sp)] (fun a=>agK.f k a.1 a.2.1 a.2.2.1)
noncomputable def agK.C {γ:Type}:Ctx γ:=mkC (fun k=>mkE [] []) [(50,Tryz.f50)] [(50,mkA [12,13,30] [] [] [])] [] []
theorem agK.fE {γ:Type}:(agK.C (γ:=γ)).Ok:=⟨(all_cons (fun k=>by kernel_rfl) all_nil),(all_cons (by kernel_rfl) all_nil),all_nil⟩
theorem agK.ok (k:Nat):iV Tryz.prog 50 (agK.m k).s:=okW agK.fE 0 Tryz.f50 k all_nil (fun k=>all_nil) (all_cons ⟨Tryz.func50,by kernel_rfl⟩ all_nil) all_nil (by kernel_rfl) (by kernel_rfl) (fun a=>by kernel_rfl)
noncomputable def agz.m (k:Nat):Sm:=jd [(.sl 3 (.int .i64)),(.int .i64)] [.own 3 (.int .i64)] (fun a=>agz.f k a.1 a.2.1)
noncomputable def agz.l0.p:PS:=⟨[.one (.s (.int .i64)),.one (.i .i64)]++nOs 3++[.one (.o 3 (.int .i64)),.one (.b),.one (.i .i64)]++nOs 40,[]⟩
noncomputable def agz.l0.c {γ:Type} (YK:HdK γ) (K:dQ→St→Option γ) (c2:Int):=(fun y1 y2=>K (.exit 0) ((⟨[nO,.one (.i .i64)]++nOs 3++[.one (.o 3 (.int .i64)),.one (.b)]++nOs 41,[]⟩:PS).mk' [.i c2,.l (.int .i64) y1,.b y2]))
noncomputable def agz.l0.g {γ:Type} (YK:HdK γ) (k:Nat) (K:dQ→St→Option γ):List Lf→Option γ
  | [.l (.int .i64) c1,.i c2,.l (.int .i64) v3,.b v4,.i v5]=>agz.l0 (agz.l0.c YK K c2) c1 c2 k v3 v4 v5
  | _=>none
noncomputable def agz.C {γ:Type}:Ctx γ:=mkC (fun k=>mkE [] []) [(96,Tryz.f96)] [(96,mkA [30,34,43,47] [(0,[0,1,5,6,7])] [(0,[1,5,6])] [])] [⟨0,96,0,iD [(agz.l0.p,agz.l0.g)]⟩] []
theorem agz.l0.eq {γ:Type} (YK:HdK γ) (rl:Option Nat) (K:dQ→St→Option γ) (c1:List Int) (c2:Int):∀ k:Nat,(fun (v3:List Int) (v4:Bool) (v5:Int)=>agz.C.lK 0 96 0 Tryz.f96 YK rl 0 k (agz.l0.p.mk' [.l (.int .i64) c1,.i c2,.l (.int .i64) v3,.b v4,.i v5]) K)=(fun (v3:List Int) (v4:Bool) (v5:Int)=>agz.l0.g YK k K [.l (.int .i64) c1,.i c2,.l (.int .i64) v3,.b v4,.i v5]):=fH (fun R k v3 v4 v5=>agz.l0T (agz.l0.c YK K c2) c1 c2 R k v3 v4 v5) (by kernel_rfl) (fun k=>by kernel_rfl) (fun k=>by kernel_rfl)
theorem agz.fE {γ:Type}:(agz.C (γ:=γ)).Ok:=⟨(all_cons (fun k=>by kernel_rfl) all_nil),(all_cons (by kernel_rfl) all_nil),all_nil⟩
theorem agz.e0 {γ:Type}:gu (agz.C (γ:=γ)) ⟨0,96,0,iD [(agz.l0.p,agz.l0.g)]⟩:=agz.fE.jT Tryz.f96 [] (by kernel_rfl) (by kernel_rfl) (by kernel_rfl) (all_cons iF all_nil) (all_cons (fun YK rl k ls K v hv=>(show agz.l0.g YK k K ls=some v→_ from fun hv=>by
  unfold agz.l0.g at hv;split at hv
  · exact (congrFun (congrFun (congrFun (agz.l0.eq YK rl K _ _ k) _) _) _).trans hv
  · cases hv) hv) all_nil)
theorem agz.ok (k:Nat):iV Tryz.prog 96 (agz.m k).s:=okW agz.fE 0 Tryz.f96 k all_nil (fun k=>all_nil) (all_cons ⟨Tryz.func96,by kernel_rfl⟩ all_nil) (all_cons agz.e0 all_nil) (by kernel_rfl) (by kernel_rfl) (fun a=>by kernel_rfl)
noncomputable def afv.m (k:Nat):Sm:=jd [.fm,.fm] [.own 3 (.int .i64)] (fun a=>afv.f k a.1.f0 a.1.f1 a.1.f2 a.1.f3 a.2.1.f0 a.2.1.f1 a.2.1.f2 a.2.1.f3)
noncomputable def afv.l0.p:PS:=⟨[nO,nO,.one (.bp 0 0),.one (.bp 1 0),nO,.one (.o 3 (.int .i64)),.one (.i .i64)]++nOs 32,[.box 25 [.i .i64,.i .i64,.s (.sl 42 .sp),.s .gr],.box 25 [.i .i64,.i .i64,.s (.sl 42 .sp),.s .gr]]⟩
noncomputable def afv.l0.c {γ:Type} (YK:HdK γ) (K:dQ→St→Option γ) (c3:Int) (c4:Int) (c5:List (List P.S42)) (c6:List P.S44) (c7:Int) (c8:Int) (c9:List (List P.S42)) (c10:List P.S44):=(fun y1=>K (.exit 0) ((⟨nOs 3++[.one (.bp 1 0),nO,.one (.o 3 (.int .i64))]++nOs 33,[.box 25 [.i .i64,.i .i64,.s (.sl 42 .sp),.s .gr],.box 25 [.i .i64,.i .i64,.s (.sl 42 .sp),.s .gr]]⟩:PS).mk' [.l (.int .i64) y1,.i c3,.i c4,.l (.sl 42 .sp) c5,.l .gr c6,.i c7,.i c8,.l (.sl 42 .sp) c9,.l .gr c10]))
noncomputable def afv.l0.g {γ:Type} (YK:HdK γ) (k:Nat) (K:dQ→St→Option γ):List Lf→Option γ
  | [.l (.int .i64) v1,.i v2,.i c3,.i c4,.l (.sl 42 .sp) c5,.l .gr c6,.i c7,.i c8,.l (.sl 42 .sp) c9,.l .gr c10]=>afv.l0 (afv.l0.c YK K c3 c4 c5 c6 c7 c8 c9 c10) c6 k v1 v2
  | _=>none
noncomputable def afv.l1.p:PS:=⟨nOs 3++[.one (.bp 1 0),nO,.one (.o 3 (.int .i64)),nO,.one (.i .i64)]++nOs 31,[.box 25 [.i .i64,.i .i64,.s (.sl 42 .sp),.s .gr],.box 25 [.i .i64,.i .i64,.s (.sl 42 .sp),.s .gr]]⟩
noncomputable def afv.l1.c {γ:Type} (YK:HdK γ) (K:dQ→St→Option γ) (c3:Int) (c4:Int) (c5:List (List P.S42)) (c6:List P.S44) (c7:Int) (c8:Int) (c9:List (List P.S42)) (c10:List P.S44):=(fun y1=>K (.exit 2) ((⟨nOs 5++[.one (.o 3 (.int .i64))]++nOs 33,[.box 25 [.i .i64,.i .i64,.s (.sl 42 .sp),.s .gr],.box 25 [.i .i64,.i .i64,.s (.sl 42 .sp),.s .gr]]⟩:PS).mk' [.l (.int .i64) y1,.i c3,.i c4,.l (.sl 42 .sp) c5,.l .gr c6,.i c7,.i c8,.l (.sl 42 .sp) c9,.l .gr c10]))
noncomputable def afv.l1.g {γ:Type} (YK:HdK γ) (k:Nat) (K:dQ→St→Option γ):List Lf→Option γ
  | [.l (.int .i64) v1,.i v2,.i c3,.i c4,.l (.sl 42 .sp) c5,.l .gr c6,.i c7,.i c8,.l (.sl 42 .sp) c9,.l .gr c10]=>afv.l1 (afv.l1.c YK K c3 c4 c5 c6 c7 c8 c9 c10) c10 k v1 v2
  | _=>none
noncomputable def afv.C {γ:Type}:Ctx γ:=mkC (fun k=>mkE [(96,agz.m k)] []) [(51,Tryz.f51)] [(51,mkA [38] [(0,[2,3,5,6]),(2,[3,5,7])] [(0,[3,5]),(2,[5])] [])] [⟨0,51,0,iD [(afv.l0.p,afv.l0.g)]⟩,⟨0,51,2,iD [(afv.l1.p,afv.l1.g)]⟩] []
theorem afv.l0.eq {γ:Type} (YK:HdK γ) (rl:Option Nat) (K:dQ→St→Option γ) (c3:Int) (c4:Int) (c5:List (List P.S42)) (c6:List P.S44) (c7:Int) (c8:Int) (c9:List (List P.S42)) (c10:List P.S44):∀ k:Nat,(fun (v1:List Int) (v2:Int)=>afv.C.lK 0 51 0 Tryz.f51 YK rl 2 k (afv.l0.p.mk' [.l (.int .i64) v1,.i v2,.i c3,.i c4,.l (.sl 42 .sp) c5,.l .gr c6,.i c7,.i c8,.l (.sl 42 .sp) c9,.l .gr c10]) K)=(fun (v1:List Int) (v2:Int)=>afv.l0.g YK k K [.l (.int .i64) v1,.i v2,.i c3,.i c4,.l (.sl 42 .sp) c5,.l .gr c6,.i c7,.i c8,.l (.sl 42 .sp) c9,.l .gr c10]):=fH (fun R k v1 v2=>afv.l0T (afv.l0.c YK K c3 c4 c5 c6 c7 c8 c9 c10) c6 R k v1 v2) (by kernel_rfl) (fun k=>by kernel_rfl) (fun k=>by kernel_rfl)
theorem afv.l1.eq {γ:Type} (YK:HdK γ) (rl:Option Nat) (K:dQ→St→Option γ) (c3:Int) (c4:Int) (c5:List (List P.S42)) (c6:List P.S44) (c7:Int) (c8:Int) (c9:List (List P.S42)) (c10:List P.S44):∀ k:Nat,(fun (v1:List Int) (v2:Int)=>afv.C.lK 0 51 2 Tryz.f51 YK rl 2 k (afv.l1.p.mk' [.l (.int .i64) v1,.i v2,.i c3,.i c4,.l (.sl 42 .sp) c5,.l .gr c6,.i c7,.i c8,.l (.sl 42 .sp) c9,.l .gr c10]) K)=(fun (v1:List Int) (v2:Int)=>afv.l1.g YK k K [.l (.int .i64) v1,.i v2,.i c3,.i c4,.l (.sl 42 .sp) c5,.l .gr c6,.i c7,.i c8,.l (.sl 42 .sp) c9,.l .gr c10]):=fH (fun R k v1 v2=>afv.l1T (afv.l1.c YK K c3 c4 c5 c6 c7 c8 c9 c10) c10 R k v1 v2) (by kernel_rfl) (fun k=>by kernel_rfl) (fun k=>by kernel_rfl)
theorem afv.fE {γ:Type}:(afv.C (γ:=γ)).Ok:=⟨(all_cons (fun k=>by kernel_rfl) all_nil),(all_cons (by kernel_rfl) all_nil),all_nil⟩
theorem afv.e0 {γ:Type}:gu (afv.C (γ:=γ)) ⟨0,51,0,iD [(afv.l0.p,afv.l0.g)]⟩:=afv.fE.jT Tryz.f51 [] (by kernel_rfl) (by kernel_rfl) (by kernel_rfl) (all_cons iF (all_cons iF all_nil)) (all_cons (fun YK rl k ls K v hv=>(show afv.l0.g YK k K ls=some v→_ from fun hv=>by
  unfold afv.l0.g at hv;split at hv
  · exact (congrFun (congrFun (afv.l0.eq YK rl K _ _ _ _ _ _ _ _ k) _) _).trans hv
  · cases hv) hv) all_nil)
theorem afv.e1 {γ:Type}:gu (afv.C (γ:=γ)) ⟨0,51,2,iD [(afv.l1.p,afv.l1.g)]⟩:=afv.fE.jT Tryz.f51 [] (by kernel_rfl) (by kernel_rfl) (by kernel_rfl) (all_cons iF (all_cons iF all_nil)) (all_cons (fun YK rl k ls K v hv=>(show afv.l1.g YK k K ls=some v→_ from fun hv=>by
  unfold afv.l1.g at hv;split at hv
  · exact (congrFun (congrFun (afv.l1.eq YK rl K _ _ _ _ _ _ _ _ k) _) _).trans hv
  · cases hv) hv) all_nil)
theorem afv.ok (k:Nat):iV Tryz.prog 51 (afv.m k).s:=okW afv.fE 0 Tryz.f51 k all_nil (fun k=>all_cons (agz.ok k) (all_nil)) (all_cons ⟨Tryz.func51,by kernel_rfl⟩ all_nil) (all_cons afv.e0 (all_cons afv.e1 all_nil)) (by kernel_rfl) (by kernel_rfl) (fun a=>by kernel_rfl)
noncomputable def aeA.m (k:Nat):Sm:=jd [.fm] [.pl (.int .i64)] (fun a=>aeA.f k a.1.f0 a.1.f1 a.1.f2 a.1.f3)
noncomputable def aeA.l0.p:PS:=⟨[nO,.one (.bp 0 0),nO,.one (.i .i64),.one (.i .i64)]++nOs 33,[.box 25 [.i .i64,.i .i64,.s (.sl 42 .sp),.s .gr]]⟩
noncomputable def aeA.l0.c {γ:Type} (YK:HdK γ) (K:dQ→St→Option γ) (c3:Int) (c4:Int) (c5:List (List P.S42)) (c6:List P.S44):=(fun y1=>K (.exit 0) ((⟨[nO,.one (.bp 0 0),nO,.one (.i .i64)]++nOs 34,[.box 25 [.i .i64,.i .i64,.s (.sl 42 .sp),.s .gr]]⟩:PS).mk' [.i y1,.i c3,.i c4,.l (.sl 42 .sp) c5,.l .gr c6]))
noncomputable def aeA.l0.g {γ:Type} (YK:HdK γ) (k:Nat) (K:dQ→St→Option γ):List Lf→Option γ
  | [.i v1,.i v2,.i c3,.i c4,.l (.sl 42 .sp) c5,.l .gr c6]=>aeA.l0 (aeA.l0.c YK K c3 c4 c5 c6) c5 k v1 v2
  | _=>none
noncomputable def aeA.l1.p:PS:=⟨[nO,.one (.bp 0 0),nO,.one (.i .i64),nO,.one (.i .i64)]++nOs 32,[.box 25 [.i .i64,.i .i64,.s (.sl 42 .sp),.s .gr]]⟩
noncomputable def aeA.l1.c {γ:Type} (YK:HdK γ) (K:dQ→St→Option γ) (c3:Int) (c4:Int) (c5:List (List P.S42)) (c6:List P.S44):=(fun y1=>K (.exit 2) ((⟨nOs 3++[.one (.i .i64)]++nOs 34,[.box 25 [.i .i64,.i .i64,.s (.sl 42 .sp),.s .gr]]⟩:PS).mk' [.i y1,.i c3,.i c4,.l (.sl 42 .sp) c5,.l .gr c6]))
noncomputable def aeA.l1.g {γ:Type} (YK:HdK γ) (k:Nat) (K:dQ→St→Option γ):List Lf→Option γ
  | [.i v1,.i v2,.i c3,.i c4,.l (.sl 42 .sp) c5,.l .gr c6]=>aeA.l1 (aeA.l1.c YK K c3 c4 c5 c6) c6 k v1 v2
  | _=>none
noncomputable def aeA.C {γ:Type}:Ctx γ:=mkC (fun k=>mkE [] []) [(97,Tryz.f97)] [(97,mkA [] [(0,[1,3,4]),(2,[1,3,5])] [(0,[1,3]),(2,[3])] [])] [⟨0,97,0,iD [(aeA.l0.p,aeA.l0.g)]⟩,⟨0,97,2,iD [(aeA.l1.p,aeA.l1.g)]⟩] []
theorem aeA.l0.eq {γ:Type} (YK:HdK γ) (rl:Option Nat) (K:dQ→St→Option γ) (c3:Int) (c4:Int) (c5:List (List P.S42)) (c6:List P.S44):∀ k:Nat,(fun (v1:Int) (v2:Int)=>aeA.C.lK 0 97 0 Tryz.f97 YK rl 1 k (aeA.l0.p.mk' [.i v1,.i v2,.i c3,.i c4,.l (.sl 42 .sp) c5,.l .gr c6]) K)=(fun (v1:Int) (v2:Int)=>aeA.l0.g YK k K [.i v1,.i v2,.i c3,.i c4,.l (.sl 42 .sp) c5,.l .gr c6]):=fH (fun R k v1 v2=>aeA.l0T (aeA.l0.c YK K c3 c4 c5 c6) c5 R k v1 v2) (by kernel_rfl) (fun k=>by kernel_rfl) (fun k=>by kernel_rfl)
theorem aeA.l1.eq {γ:Type} (YK:HdK γ) (rl:Option Nat) (K:dQ→St→Option γ) (c3:Int) (c4:Int) (c5:List (List P.S42)) (c6:List P.S44):∀ k:Nat,(fun (v1:Int) (v2:Int)=>aeA.C.lK 0 97 2 Tryz.f97 YK rl 1 k (aeA.l1.p.mk' [.i v1,.i v2,.i c3,.i c4,.l (.sl 42 .sp) c5,.l .gr c6]) K)=(fun (v1:Int) (v2:Int)=>aeA.l1.g YK k K [.i v1,.i v2,.i c3,.i c4,.l (.sl 42 .sp) c5,.l .gr c6]):=fH (fun R k v1 v2=>aeA.l1T (aeA.l1.c YK K c3 c4 c5 c6) c6 R k v1 v2) (by kernel_rfl) (fun k=>by kernel_rfl) (fun k=>by kernel_rfl)
theorem aeA.fE {γ:Type}:(aeA.C (γ:=γ)).Ok:=⟨(all_cons (fun k=>by kernel_rfl) all_nil),(all_cons (by kernel_rfl) all_nil),all_nil⟩
theorem aeA.e0 {γ:Type}:gu (aeA.C (γ:=γ)) ⟨0,97,0,iD [(aeA.l0.p,aeA.l0.g)]⟩:=aeA.fE.jT Tryz.f97 [] (by kernel_rfl) (by kernel_rfl) (by kernel_rfl) (all_cons iF (all_cons iF all_nil)) (all_cons (fun YK rl k ls K v hv=>(show aeA.l0.g YK k K ls=some v→_ from fun hv=>by
  unfold aeA.l0.g at hv;split at hv
  · exact (congrFun (congrFun (aeA.l0.eq YK rl K _ _ _ _ k) _) _).trans hv
  · cases hv) hv) all_nil)
theorem aeA.e1 {γ:Type}:gu (aeA.C (γ:=γ)) ⟨0,97,2,iD [(aeA.l1.p,aeA.l1.g)]⟩:=aeA.fE.jT Tryz.f97 [] (by kernel_rfl) (by kernel_rfl) (by kernel_rfl) (all_cons iF (all_cons iF all_nil)) (all_cons (fun YK rl k ls K v hv=>(show aeA.l1.g YK k K ls=some v→_ from fun hv=>by
  unfold aeA.l1.g at hv;split at hv
  · exact (congrFun (congrFun (aeA.l1.eq YK rl K _ _ _ _ k) _) _).trans hv
  · cases hv) hv) all_nil)
theorem aeA.ok (k:Nat):iV Tryz.prog 97 (aeA.m k).s:=okW aeA.fE 0 Tryz.f97 k all_nil (fun k=>all_nil) (all_cons ⟨Tryz.func97,by kernel_rfl⟩ all_nil) (all_cons aeA.e0 (all_cons aeA.e1 all_nil)) (by kernel_rfl) (by kernel_rfl) (fun a=>by kernel_rfl)
noncomputable def agw.m (k:Nat):Sm:=jd [(.sl 42 .sp)] [.pl .bool] (fun a=>agw.f k a.1)
noncomputable def agw.l0.p:PS:=⟨[.one (.s .sp),nO,nO,.one (.i .i64)]++nOs 61,[]⟩
noncomputable def agw.l0.c {γ:Type} (YK:HdK γ) (K:dQ→St→Option γ)  := ((K .ret ((⟨[nO,nO,.one (.lb false)]++nOs 62,[]⟩:PS).mk' [])),(K (.exit 0) ((⟨nOs 65,[]⟩:PS).mk' [])))
noncomputable def agw.l0.g {γ:Type} (YK:HdK γ) (k:Nat) (K:dQ→St→Option γ):List Lf→Option γ
  | [.l .sp c1,.i v2]=>let q:=agw.l0.c YK K;agw.l0 q.1 q.2 c1 k v2
  | _=>none
noncomputable def agw.C {γ:Type}:Ctx γ:=mkC (fun k=>mkE [(136,agB.m k)] []) [(137,Tryz.f137)] [(137,mkA [] [(0,[0,3])] [(0,[2])] [])] [⟨0,137,0,iD [(agw.l0.p,agw.l0.g)]⟩] []
theorem agw.l0.eq {γ:Type} (YK:HdK γ) (rl:Option Nat) (K:dQ→St→Option γ) (c1:List P.S42):∀ k:Nat,(fun (v2:Int)=>agw.C.lK 0 137 0 Tryz.f137 YK rl 0 k (agw.l0.p.mk' [.l .sp c1,.i v2]) K)=(fun (v2:Int)=>agw.l0.g YK k K [.l .sp c1,.i v2]):=fH (fun R k v2=>agw.l0T (agw.l0.c YK K).1 (agw.l0.c YK K).2 c1 R k v2) (by kernel_rfl) (fun k=>by
  funext v2
  cases v2 <;> kernel_rfl) (fun k=>by kernel_rfl)
theorem agw.fE {γ:Type}:(agw.C (γ:=γ)).Ok:=⟨(all_cons (fun k=>by kernel_rfl) all_nil),(all_cons (by kernel_rfl) all_nil),all_nil⟩
theorem agw.e0 {γ:Type}:gu (agw.C (γ:=γ)) ⟨0,137,0,iD [(agw.l0.p,agw.l0.g)]⟩:=agw.fE.jT Tryz.f137 [] (by kernel_rfl) (by kernel_rfl) (by kernel_rfl) (all_cons iF all_nil) (all_cons (fun YK rl k ls K v hv=>(show agw.l0.g YK k K ls=some v→_ from fun hv=>by
  unfold agw.l0.g at hv;split at hv
  · exact (congrFun (agw.l0.eq YK rl K _ k) _).trans hv
  · cases hv) hv) all_nil)
theorem agw.ok (k:Nat):iV Tryz.prog 137 (agw.m k).s:=okW agw.fE 0 Tryz.f137 k all_nil (fun k=>all_cons (agB.ok k) (all_nil)) (all_cons ⟨Tryz.func137,by kernel_rfl⟩ all_nil) (all_cons agw.e0 all_nil) (by kernel_rfl) (by kernel_rfl) (fun a=>by kernel_rfl)
end Go.Proofs.YtcomnjodjijcmaaGreat.R
