/- Lemmas for laws of chapter 7: what the functions that they reach compute. No condition of its own. -/
import Derived.Test.YtcomnjodjijcmaaGreatYE9
import Derived.Test.YtcomnjodjijcmaaGreatYE10
import Derived.Test.YtcomnjodjijcmaaGreatYE12
import Derived.Test.YtcomnjodjijcmaaGreatYE16
import Derived.Test.YtcomnjodjijcmaaGreatYE13
import Derived.Test.YtcomnjodjijcmaaGreatYE14
import Derived.Test.YtcomnjodjijcmaaGreatYE15
import Derived.Test.YtcomnjodjijcmaaGreatYE2
import Derived.Deep.SlicePairs
import Derived.ChangeArms
import Derived.ProofKit
namespace Go.Proofs.YtcomnjodjijcmaaGreat.R
open M Go.RowKit Go.Proofs.YtcomnjodjijcmaaGreatW.dz Go.Proofs.YtcomnjodjijcmaaGreatW.dX Go.Proofs.YtcomnjodjijcmaaGreatW.eD
set_option linter.unusedVariables false
noncomputable def qw.m (k:Nat):Sm:=jd [.fm] [.pl .bool] (fun a=>qw.f k a.1.f0 a.1.f1 a.1.f2 a.1.f3)
noncomputable def qw.l1.p:PS:=⟨[nO,.one (.bp 0 0),nO,.one (.i .i64)]++nOs 94,[.box 25 [.i .i64,.i .i64,.s (.sl 42 .sp),.s .gr]]⟩
noncomputable def qw.l1.c {γ:Type} (YK:HdK γ) (K:dQ→St→Option γ) (c2:Int) (c3:Int) (c4:List (List P.S42)) (c5:List P.S44):=((K .ret ((⟨[nO,.one (.bp 0 0),.one (.lb false)]++nOs 95,[.box 25 [.i .i64,.i .i64,.s (.sl 42 .sp),.s .gr]]⟩:PS).mk' [.i c2,.i c3,.l (.sl 42 .sp) c4,.l .gr c5])),(K (.exit 0) ((⟨[nO,.one (.bp 0 0)]++nOs 96,[.box 25 [.i .i64,.i .i64,.s (.sl 42 .sp),.s .gr]]⟩:PS).mk' [.i c2,.i c3,.l (.sl 42 .sp) c4,.l .gr c5])))
noncomputable def qw.l1.g {γ:Type} (YK:HdK γ) (k:Nat) (K:dQ→St→Option γ):List Lf→Option γ
  | [.i v1,.i c2,.i c3,.l (.sl 42 .sp) c4,.l .gr c5]=>let q:=qw.l1.c YK K c2 c3 c4 c5;qw.l1 q.1 q.2 c4 k v1
  | _=>none
noncomputable def qw.l2.p:PS:=⟨[nO,.one (.bp 0 0),nO,nO,.one (.i .i64)]++nOs 93,[.box 25 [.i .i64,.i .i64,.s (.sl 42 .sp),.s .gr]]⟩
noncomputable def qw.l2.c {γ:Type} (YK:HdK γ) (K:dQ→St→Option γ) (c2:Int) (c3:Int) (c4:List (List P.S42)) (c5:List P.S44):=((K .ret ((⟨[nO,nO,.one (.lb false)]++nOs 95,[.box 25 [.i .i64,.i .i64,.s (.sl 42 .sp),.s .gr]]⟩:PS).mk' [.i c2,.i c3,.l (.sl 42 .sp) c4,.l .gr c5])),(K (.exit 2) ((⟨nOs 98,[.box 25 [.i .i64,.i .i64,.s (.sl 42 .sp),.s .gr]]⟩:PS).mk' [.i c2,.i c3,.l (.sl 42 .sp) c4,.l .gr c5])))
noncomputable def qw.l2.g {γ:Type} (YK:HdK γ) (k:Nat) (K:dQ→St→Option γ):List Lf→Option γ
  | [.i v1,.i c2,.i c3,.l (.sl 42 .sp) c4,.l .gr c5]=>let q:=qw.l2.c YK K c2 c3 c4 c5;qw.l2 q.1 q.2 c5 k v1
  | _=>none
noncomputable def qw.l0.p:PS:=⟨[nO,.one (.bp 0 0)]++nOs 96,[.box 25 [.i .i64,.i .i64,.s (.sl 42 .sp),.s .gr]]⟩
noncomputable def qw.l0.c {γ:Type} (YK:HdK γ) (K:dQ→St→Option γ)  := ((fun y1 y2 y3 y4=>K .ret ((⟨[nO,nO,.one (.lb false)]++nOs 95,[.box 25 [.i .i64,.i .i64,.s (.sl 42 .sp),.s .gr]]⟩:PS).mk' [.i y1,.i y2,.l (.sl 42 .sp) y3,.l .gr y4])),(fun y1 y2 y3 y4=>K .ret ((⟨[nO,nO,.one (.lb true)]++nOs 95,[.box 25 [.i .i64,.i .i64,.s (.sl 42 .sp),.s .gr]]⟩:PS).mk' [.i y1,.i y2,.l (.sl 42 .sp) y3,.l .gr y4])))
noncomputable def qw.l0.g {γ:Type} (YK:HdK γ) (k:Nat) (K:dQ→St→Option γ):List Lf→Option γ
  | [.i v1,.i v2,.l (.sl 42 .sp) v3,.l .gr v4]=>let q:=qw.l0.c YK K;qw.l0 q.1 q.2 k v1 v2 v3 v4
  | _=>none
noncomputable def qw.C {γ:Type}:Ctx γ:=mkC (fun k=>mkE [(137,agw.m k)] []) [(98,Tryz.f98)] [(98,mkA [] [(0,[1,3]),(2,[1,4]),(1000010,[1])] [(0,[1,2]),(2,[2]),(1000010,[2])] [])] [⟨0,98,0,iD [(qw.l1.p,qw.l1.g)]⟩,⟨0,98,2,iD [(qw.l2.p,qw.l2.g)]⟩,⟨0,98,1000010,iD [(qw.l0.p,qw.l0.g)]⟩] []
theorem qw.l1.eq {γ:Type} (YK:HdK γ) (rl:Option Nat) (K:dQ→St→Option γ) (c2:Int) (c3:Int) (c4:List (List P.S42)) (c5:List P.S44):∀ k:Nat,(fun (v1:Int)=>qw.C.lK 0 98 0 Tryz.f98 YK rl 1 k (qw.l1.p.mk' [.i v1,.i c2,.i c3,.l (.sl 42 .sp) c4,.l .gr c5]) K)=(fun (v1:Int)=>qw.l1.g YK k K [.i v1,.i c2,.i c3,.l (.sl 42 .sp) c4,.l .gr c5]):=fH (fun R k v1=>qw.l1T (qw.l1.c YK K c2 c3 c4 c5).1 (qw.l1.c YK K c2 c3 c4 c5).2 c4 R k v1) (by kernel_rfl) (fun k=>by kernel_rfl) (fun k=>by kernel_rfl)
theorem qw.l2.eq {γ:Type} (YK:HdK γ) (rl:Option Nat) (K:dQ→St→Option γ) (c2:Int) (c3:Int) (c4:List (List P.S42)) (c5:List P.S44):∀ k:Nat,(fun (v1:Int)=>qw.C.lK 0 98 2 Tryz.f98 YK rl 1 k (qw.l2.p.mk' [.i v1,.i c2,.i c3,.l (.sl 42 .sp) c4,.l .gr c5]) K)=(fun (v1:Int)=>qw.l2.g YK k K [.i v1,.i c2,.i c3,.l (.sl 42 .sp) c4,.l .gr c5]):=fH (fun R k v1=>qw.l2T (qw.l2.c YK K c2 c3 c4 c5).1 (qw.l2.c YK K c2 c3 c4 c5).2 c5 R k v1) (by kernel_rfl) (fun k=>by kernel_rfl) (fun k=>by kernel_rfl)
theorem qw.l0.eq {γ:Type} (YK:HdK γ) (rl:Option Nat) (K:dQ→St→Option γ) (k:Nat) (v1:Int) (v2:Int) (v3:List (List P.S42)) (v4:List P.S44):qw.C.lK 0 98 1000010 Tryz.f98 YK rl 1 k (qw.l0.p.mk' [.i v1,.i v2,.l (.sl 42 .sp) v3,.l .gr v4]) K=qw.l0.g YK k K [.i v1,.i v2,.l (.sl 42 .sp) v3,.l .gr v4]:=by kernel_rfl
theorem qw.fE {γ:Type}:(qw.C (γ:=γ)).Ok:=⟨(all_cons (fun k=>by kernel_rfl) all_nil),(all_cons (by kernel_rfl) all_nil),all_nil⟩
theorem qw.e0 {γ:Type}:gu (qw.C (γ:=γ)) ⟨0,98,0,iD [(qw.l1.p,qw.l1.g)]⟩:=qw.fE.jT Tryz.f98 [] (by kernel_rfl) (by kernel_rfl) (by kernel_rfl) (all_cons iF (all_cons iF (all_cons iF all_nil))) (all_cons (fun YK rl k ls K v hv=>(show qw.l1.g YK k K ls=some v→_ from fun hv=>by
  unfold qw.l1.g at hv;split at hv
  · exact (congrFun (qw.l1.eq YK rl K _ _ _ _ k) _).trans hv
  · cases hv) hv) all_nil)
theorem qw.e1 {γ:Type}:gu (qw.C (γ:=γ)) ⟨0,98,2,iD [(qw.l2.p,qw.l2.g)]⟩:=qw.fE.jT Tryz.f98 [] (by kernel_rfl) (by kernel_rfl) (by kernel_rfl) (all_cons iF (all_cons iF (all_cons iF all_nil))) (all_cons (fun YK rl k ls K v hv=>(show qw.l2.g YK k K ls=some v→_ from fun hv=>by
  unfold qw.l2.g at hv;split at hv
  · exact (congrFun (qw.l2.eq YK rl K _ _ _ _ k) _).trans hv
  · cases hv) hv) all_nil)
theorem qw.e2 {γ:Type}:gu (qw.C (γ:=γ)) ⟨0,98,1000010,iD [(qw.l0.p,qw.l0.g)]⟩:=qw.fE.jT Tryz.f98 [0,2] (by kernel_rfl) (by kernel_rfl) (by kernel_rfl) (all_cons (fun _=>qw.e0) (all_cons (fun _=>qw.e1) (all_cons iF all_nil))) (all_cons (fun YK rl k ls K v hv=>(show qw.l0.g YK k K ls=some v→_ from fun hv=>by
  unfold qw.l0.g at hv;split at hv
  · exact (qw.l0.eq YK rl K k _ _ _ _).trans hv
  · cases hv) hv) all_nil)
theorem qw.ok (k:Nat):iV Tryz.prog 98 (qw.m k).s:=okW qw.fE 0 Tryz.f98 k all_nil (fun k=>all_cons (agw.ok k) (all_nil)) (all_cons ⟨Tryz.func98,by kernel_rfl⟩ all_nil) (all_cons qw.e0 (all_cons qw.e1 (all_cons qw.e2 all_nil))) (by kernel_rfl) (by kernel_rfl) (fun a=>by kernel_rfl)
noncomputable def aa2.m (k:Nat):Sm:=jd [(.sl 42 .sp),(.sl 42 .sp)] [.pl .bool] (fun a=>aa2.f k a.1 a.2.1)
noncomputable def aa2.l1.p:PS:=⟨[.one (.s .sp),.one (.s .sp)]++nOs 3++[.one (.i .i64),.one (.i .i64)]++nOs 23,[]⟩
noncomputable def aa2.l1.c {γ:Type} (YK:HdK γ) (K:dQ→St→Option γ) (c1:List P.S42) (c2:List P.S42) (c3:Int):=((K .ret ((⟨[.one (.s .sp),.one (.s .sp),nO,nO,.one (.lb false),.one (.i .i64)]++nOs 24,[]⟩:PS).mk' [.l .sp c1,.l .sp c2,.i c3])),(K (.exit 2) ((⟨[.one (.s .sp),.one (.s .sp)]++nOs 3++[.one (.i .i64)]++nOs 24,[]⟩:PS).mk' [.l .sp c1,.l .sp c2,.i c3])))
noncomputable def aa2.l1.g {γ:Type} (YK:HdK γ) (k:Nat) (K:dQ→St→Option γ):List Lf→Option γ
  | [.l .sp c1,.l .sp c2,.i c3,.i v4]=>let q:=aa2.l1.c YK K c1 c2 c3;aa2.l1 q.1 q.2 c1 c2 c3 k v4
  | _=>none
noncomputable def aa2.l0.p:PS:=⟨[.one (.s .sp),.one (.s .sp)]++nOs 3++[.one (.i .i64)]++nOs 24,[]⟩
noncomputable def aa2.l0.c {γ:Type} (YK:HdK γ) (K:dQ→St→Option γ)  := ((K .ret ((⟨nOs 4++[.one (.lb false)]++nOs 25,[]⟩:PS).mk' [])),(K (.exit 0) ((⟨nOs 30,[]⟩:PS).mk' [])))
noncomputable def aa2.l0.g {γ:Type} (YK:HdK γ) (k:Nat) (K:dQ→St→Option γ):List Lf→Option γ
  | [.l .sp c1,.l .sp c2,.i v3]=>let q:=aa2.l0.c YK K;aa2.l0 q.1 q.2 c1 c2 k v3
  | _=>none
noncomputable def aa2.C {γ:Type}:Ctx γ:=mkC (fun k=>mkE [] []) [(138,Tryz.f138)] [(138,mkA [] [(0,[0,1,5]),(2,[0,1,5,6])] [(0,[4]),(2,[0,1,4,5])] [])] [⟨0,138,2,iD [(aa2.l1.p,aa2.l1.g)]⟩,⟨0,138,0,iD [(aa2.l0.p,aa2.l0.g)]⟩] []
theorem aa2.l1.eq {γ:Type} (YK:HdK γ) (rl:Option Nat) (K:dQ→St→Option γ) (c1:List P.S42) (c2:List P.S42) (c3:Int):∀ k:Nat,(fun (v4:Int)=>aa2.C.lK 0 138 2 Tryz.f138 YK rl 0 k (aa2.l1.p.mk' [.l .sp c1,.l .sp c2,.i c3,.i v4]) K)=(fun (v4:Int)=>aa2.l1.g YK k K [.l .sp c1,.l .sp c2,.i c3,.i v4]):=fH (fun R k v4=>aa2.l1T (aa2.l1.c YK K c1 c2 c3).1 (aa2.l1.c YK K c1 c2 c3).2 c1 c2 c3 R k v4) (by kernel_rfl) (fun k=>by kernel_rfl) (fun k=>by kernel_rfl)
theorem aa2.l0.eq {γ:Type} (YK:HdK γ) (rl:Option Nat) (K:dQ→St→Option γ) (c1:List P.S42) (c2:List P.S42):∀ k:Nat,(fun (v3:Int)=>aa2.C.lK 0 138 0 Tryz.f138 YK rl 0 k (aa2.l0.p.mk' [.l .sp c1,.l .sp c2,.i v3]) K)=(fun (v3:Int)=>aa2.l0.g YK k K [.l .sp c1,.l .sp c2,.i v3]):=fH (fun R k v3=>aa2.l0T (aa2.l0.c YK K).1 (aa2.l0.c YK K).2 c1 c2 R k v3) (by kernel_rfl) (fun k=>by kernel_rfl) (fun k=>by kernel_rfl)
theorem aa2.fE {γ:Type}:(aa2.C (γ:=γ)).Ok:=⟨(all_cons (fun k=>by kernel_rfl) all_nil),(all_cons (by kernel_rfl) all_nil),all_nil⟩
theorem aa2.e0 {γ:Type}:gu (aa2.C (γ:=γ)) ⟨0,138,2,iD [(aa2.l1.p,aa2.l1.g)]⟩:=aa2.fE.jT Tryz.f138 [] (by kernel_rfl) (by kernel_rfl) (by kernel_rfl) (all_cons iF (all_cons iF all_nil)) (all_cons (fun YK rl k ls K v hv=>(show aa2.l1.g YK k K ls=some v→_ from fun hv=>by
  unfold aa2.l1.g at hv;split at hv
  · exact (congrFun (aa2.l1.eq YK rl K _ _ _ k) _).trans hv
  · cases hv) hv) all_nil)
theorem aa2.e1 {γ:Type}:gu (aa2.C (γ:=γ)) ⟨0,138,0,iD [(aa2.l0.p,aa2.l0.g)]⟩:=aa2.fE.jT Tryz.f138 [2] (by kernel_rfl) (by kernel_rfl) (by kernel_rfl) (all_cons (fun _=>aa2.e0) (all_cons iF all_nil)) (all_cons (fun YK rl k ls K v hv=>(show aa2.l0.g YK k K ls=some v→_ from fun hv=>by
  unfold aa2.l0.g at hv;split at hv
  · exact (congrFun (aa2.l0.eq YK rl K _ _ k) _).trans hv
  · cases hv) hv) all_nil)
theorem aa2.ok (k:Nat):iV Tryz.prog 138 (aa2.m k).s:=okW aa2.fE 0 Tryz.f138 k all_nil (fun k=>all_nil) (all_cons ⟨Tryz.func138,by kernel_rfl⟩ all_nil) (all_cons aa2.e0 (all_cons aa2.e1 all_nil)) (by kernel_rfl) (by kernel_rfl) (fun a=>by kernel_rfl)
noncomputable def agv.m (k:Nat):Sm:=jd [.fm] [.pl .bool] (fun a=>agv.f k a.1.f0 a.1.f1 a.1.f2 a.1.f3)
noncomputable def agv.l0.p:PS:=⟨[nO,.one (.bp 0 0),nO,.one (.i .i64),.one (.s .sp),.one (.i .i64)]++nOs 47,[.box 25 [.i .i64,.i .i64,.s (.sl 42 .sp),.s .gr]]⟩
noncomputable def agv.l0.c {γ:Type} (YK:HdK γ) (K:dQ→St→Option γ) (c4:Int) (c5:Int) (c6:List (List P.S42)) (c7:List P.S44):=((fun y1 y2=>K .ret ((⟨[nO,.one (.bp 0 0),.one (.lb false),.one (.i .i64),.one (.s .sp)]++nOs 48,[.box 25 [.i .i64,.i .i64,.s (.sl 42 .sp),.s .gr]]⟩:PS).mk' [.i y1,.l .sp y2,.i c4,.i c5,.l (.sl 42 .sp) c6,.l .gr c7])),(fun y1 y2=>K (.exit 0) ((⟨[nO,.one (.bp 0 0),nO,.one (.i .i64),.one (.s .sp)]++nOs 48,[.box 25 [.i .i64,.i .i64,.s (.sl 42 .sp),.s .gr]]⟩:PS).mk' [.i y1,.l .sp y2,.i c4,.i c5,.l (.sl 42 .sp) c6,.l .gr c7])))
noncomputable def agv.l0.g {γ:Type} (YK:HdK γ) (k:Nat) (K:dQ→St→Option γ):List Lf→Option γ
  | [.i v1,.l .sp v2,.i v3,.i c4,.i c5,.l (.sl 42 .sp) c6,.l .gr c7]=>let q:=agv.l0.c YK K c4 c5 c6 c7;agv.l0 q.1 q.2 c6 k v1 v2 v3
  | _=>none
noncomputable def agv.C {γ:Type}:Ctx γ:=mkC (fun k=>mkE [(138,aa2.m k)] []) [(99,Tryz.f99)] [(99,mkA [] [(0,[1,3,4,5])] [(0,[1,2,3,4])] [(2,[],[.un (.tm 4)])])] [⟨0,99,0,iD [(agv.l0.p,agv.l0.g)]⟩] []
theorem agv.l0.eq {γ:Type} (YK:HdK γ) (rl:Option Nat) (K:dQ→St→Option γ) (c4:Int) (c5:Int) (c6:List (List P.S42)) (c7:List P.S44):∀ k:Nat,(fun (v1:Int) (v2:List P.S42) (v3:Int)=>agv.C.lK 0 99 0 Tryz.f99 YK rl 1 k (agv.l0.p.mk' [.i v1,.l .sp v2,.i v3,.i c4,.i c5,.l (.sl 42 .sp) c6,.l .gr c7]) K)=(fun (v1:Int) (v2:List P.S42) (v3:Int)=>agv.l0.g YK k K [.i v1,.l .sp v2,.i v3,.i c4,.i c5,.l (.sl 42 .sp) c6,.l .gr c7]):=fH (fun R k v1 v2 v3=>agv.l0T (agv.l0.c YK K c4 c5 c6 c7).1 (agv.l0.c YK K c4 c5 c6 c7).2 c6 R k v1 v2 v3) (by kernel_rfl) (fun k=>by kernel_rfl) (fun k=>by kernel_rfl)
theorem agv.fE {γ:Type}:(agv.C (γ:=γ)).Ok:=⟨(all_cons (fun k=>by kernel_rfl) all_nil),(all_cons (by kernel_rfl) all_nil),all_nil⟩
theorem agv.e0 {γ:Type}:gu (agv.C (γ:=γ)) ⟨0,99,0,iD [(agv.l0.p,agv.l0.g)]⟩:=agv.fE.jT Tryz.f99 [] (by kernel_rfl) (by kernel_rfl) (by kernel_rfl) (all_cons iF all_nil) (all_cons (fun YK rl k ls K v hv=>(show agv.l0.g YK k K ls=some v→_ from fun hv=>by
  unfold agv.l0.g at hv;split at hv
  · exact (congrFun (congrFun (congrFun (agv.l0.eq YK rl K _ _ _ _ k) _) _) _).trans hv
  · cases hv) hv) all_nil)
theorem agv.ok (k:Nat):iV Tryz.prog 99 (agv.m k).s:=okW agv.fE 0 Tryz.f99 k all_nil (fun k=>all_cons (aa2.ok k) (all_nil)) (all_cons ⟨Tryz.func99,by kernel_rfl⟩ all_nil) (all_cons agv.e0 all_nil) (by kernel_rfl) (by kernel_rfl) (fun a=>by kernel_rfl)
noncomputable def agT.m (k:Nat):Sm:=jd [.fm] [.pl .fm] (fun a=>agT.f k a.1.f0 a.1.f1 a.1.f2 a.1.f3)
noncomputable def agT.C {γ:Type}:Ctx γ:=mkC (fun k=>mkE [] []) [(100,Tryz.f100)] [(100,mkA [] [] [] [])] [] []
theorem agT.fE {γ:Type}:(agT.C (γ:=γ)).Ok:=⟨(all_cons (fun k=>by kernel_rfl) all_nil),(all_cons (by kernel_rfl) all_nil),all_nil⟩
theorem agT.ok (k:Nat):iV Tryz.prog 100 (agT.m k).s:=okW agT.fE 0 Tryz.f100 k all_nil (fun k=>all_nil) (all_cons ⟨Tryz.func100,by kernel_rfl⟩ all_nil) all_nil (by kernel_rfl) (by kernel_rfl) (fun a=>by kernel_rfl)
noncomputable def agR.m (k:Nat):Sm:=jd [.fm] [.pl (.int .i64)] (fun a=>agR.f k a.1.f0 a.1.f1 a.1.f2 a.1.f3)
noncomputable def agR.C {γ:Type}:Ctx γ:=mkC (fun k=>mkE [] []) [(170,Tryz.f170)] [(170,mkA [] [] [] [])] [] []
theorem agR.fE {γ:Type}:(agR.C (γ:=γ)).Ok:=⟨(all_cons (fun k=>by kernel_rfl) all_nil),(all_cons (by kernel_rfl) all_nil),all_nil⟩
theorem agR.ok (k:Nat):iV Tryz.prog 170 (agR.m k).s:=okW agR.fE 0 Tryz.f170 k all_nil (fun k=>all_nil) (all_cons ⟨Tryz.func170,by kernel_rfl⟩ all_nil) all_nil (by kernel_rfl) (by kernel_rfl) (fun a=>by kernel_rfl)
noncomputable def agS.m (k:Nat):Sm:=jd [.fm,(.int .i64)] [.pl .bool] (fun a=>agS.f k a.1.f0 a.1.f1 a.1.f2 a.1.f3 a.2.1)
noncomputable def agS.C {γ:Type}:Ctx γ:=mkC (fun k=>mkE [(91,agA.m k)] []) [(171,Tryz.f171)] [(171,mkA [] [] [] [])] [] []
theorem agS.fE {γ:Type}:(agS.C (γ:=γ)).Ok:=⟨(all_cons (fun k=>by kernel_rfl) all_nil),(all_cons (by kernel_rfl) all_nil),all_nil⟩
theorem agS.ok (k:Nat):iV Tryz.prog 171 (agS.m k).s:=okW agS.fE 0 Tryz.f171 k all_nil (fun k=>all_cons (agA.ok k) (all_nil)) (all_cons ⟨Tryz.func171,by kernel_rfl⟩ all_nil) all_nil (by kernel_rfl) (by kernel_rfl) (fun a=>by kernel_rfl)
noncomputable def r9.m (k:Nat):Sm:=jd [.fm,(.int .i64),(.int .i64)] [.pl (.int .i64),.pl .bool] (fun a=>r9.f k a.1.f0 a.1.f1 a.1.f2 a.1.f3 a.2.1 a.2.2.1)
noncomputable def r9.l0.p:PS:=⟨[nO,.one (.i .i64),.one (.i .i64),.one (.bp 0 0)]++nOs 4++[.one (.b),.one (.i .i64),.one (.i .i64)]++nOs 78,[.box 25 [.i .i64,.i .i64,.s (.sl 42 .sp),.s .gr]]⟩
noncomputable def r9.l0.c {γ:Type} (YK:HdK γ) (K:dQ→St→Option γ) (c1:Int) (c2:Int) (c6:Int) (c7:Int) (c8:List (List P.S42)) (c9:List P.S44):=(fun y1 y2=>K (.exit 0) ((⟨[nO,.one (.i .i64),.one (.i .i64),.one (.bp 0 0)]++nOs 4++[.one (.b),.one (.i .i64)]++nOs 79,[.box 25 [.i .i64,.i .i64,.s (.sl 42 .sp),.s .gr]]⟩:PS).mk' [.i c1,.i c2,.b y1,.i y2,.i c6,.i c7,.l (.sl 42 .sp) c8,.l .gr c9]))
noncomputable def r9.l0.g {γ:Type} (YK:HdK γ) (k:Nat) (K:dQ→St→Option γ):List Lf→Option γ
  | [.i c1,.i c2,.b v3,.i v4,.i v5,.i c6,.i c7,.l (.sl 42 .sp) c8,.l .gr c9]=>r9.l0 (r9.l0.c YK K c1 c2 c6 c7 c8 c9) c1 c2 c9 k v3 v4 v5
  | _=>none
noncomputable def r9.l1.p:PS:=⟨[nO,.one (.i .i64),.one (.i .i64),.one (.bp 0 0)]++nOs 4++[.one (.b),.one (.i .i64),nO,nO,.one (.i .i64)]++nOs 76,[.box 25 [.i .i64,.i .i64,.s (.sl 42 .sp),.s .gr]]⟩
noncomputable def r9.l1.c {γ:Type} (YK:HdK γ) (K:dQ→St→Option γ) (c6:Int) (c7:Int) (c8:List (List P.S42)) (c9:List P.S44):=(fun y1 y2=>K (.exit 2) ((⟨nOs 8++[.one (.b),.one (.i .i64)]++nOs 79,[.box 25 [.i .i64,.i .i64,.s (.sl 42 .sp),.s .gr]]⟩:PS).mk' [.b y1,.i y2,.i c6,.i c7,.l (.sl 42 .sp) c8,.l .gr c9]))
noncomputable def r9.l1.g {γ:Type} (YK:HdK γ) (k:Nat) (K:dQ→St→Option γ):List Lf→Option γ
  | [.i c1,.i c2,.b v3,.i v4,.i v5,.i c6,.i c7,.l (.sl 42 .sp) c8,.l .gr c9]=>r9.l1 (r9.l1.c YK K c6 c7 c8 c9) c1 c2 c6 c7 c8 c9 k v3 v4 v5
  | _=>none
noncomputable def r9.C {γ:Type}:Ctx γ:=mkC (fun k=>mkE [(170,agR.m k),(171,agS.m k)] []) [(139,Tryz.f139)] [(139,mkA [] [(0,[1,2,3,8,9,10]),(2,[1,2,3,8,9,12])] [(0,[1,2,3,8,9]),(2,[8,9])] [])] [⟨0,139,0,iD [(r9.l0.p,r9.l0.g)]⟩,⟨0,139,2,iD [(r9.l1.p,r9.l1.g)]⟩] []
theorem r9.l0.eq {γ:Type} (YK:HdK γ) (rl:Option Nat) (K:dQ→St→Option γ) (c1:Int) (c2:Int) (c6:Int) (c7:Int) (c8:List (List P.S42)) (c9:List P.S44):∀ k:Nat,(fun (v3:Bool) (v4:Int) (v5:Int)=>r9.C.lK 0 139 0 Tryz.f139 YK rl 1 k (r9.l0.p.mk' [.i c1,.i c2,.b v3,.i v4,.i v5,.i c6,.i c7,.l (.sl 42 .sp) c8,.l .gr c9]) K)=(fun (v3:Bool) (v4:Int) (v5:Int)=>r9.l0.g YK k K [.i c1,.i c2,.b v3,.i v4,.i v5,.i c6,.i c7,.l (.sl 42 .sp) c8,.l .gr c9]):=fH (fun R k v3 v4 v5=>r9.l0T (r9.l0.c YK K c1 c2 c6 c7 c8 c9) c1 c2 c9 R k v3 v4 v5) (by kernel_rfl) (fun k=>by kernel_rfl) (fun k=>by kernel_rfl)
theorem r9.l1.eq {γ:Type} (YK:HdK γ) (rl:Option Nat) (K:dQ→St→Option γ) (c1:Int) (c2:Int) (c6:Int) (c7:Int) (c8:List (List P.S42)) (c9:List P.S44):∀ k:Nat,(fun (v3:Bool) (v4:Int) (v5:Int)=>r9.C.lK 0 139 2 Tryz.f139 YK rl 1 k (r9.l1.p.mk' [.i c1,.i c2,.b v3,.i v4,.i v5,.i c6,.i c7,.l (.sl 42 .sp) c8,.l .gr c9]) K)=(fun (v3:Bool) (v4:Int) (v5:Int)=>r9.l1.g YK k K [.i c1,.i c2,.b v3,.i v4,.i v5,.i c6,.i c7,.l (.sl 42 .sp) c8,.l .gr c9]):=fH (fun R k v3 v4 v5=>r9.l1T (r9.l1.c YK K c6 c7 c8 c9) c1 c2 c6 c7 c8 c9 R k v3 v4 v5) (by kernel_rfl) (fun k=>by kernel_rfl) (fun k=>by kernel_rfl)
theorem r9.fE {γ:Type}:(r9.C (γ:=γ)).Ok:=⟨(all_cons (fun k=>by kernel_rfl) all_nil),(all_cons (by kernel_rfl) all_nil),all_nil⟩
theorem r9.e0 {γ:Type}:gu (r9.C (γ:=γ)) ⟨0,139,0,iD [(r9.l0.p,r9.l0.g)]⟩:=r9.fE.jT Tryz.f139 [] (by kernel_rfl) (by kernel_rfl) (by kernel_rfl) (all_cons iF (all_cons iF all_nil)) (all_cons (fun YK rl k ls K v hv=>(show r9.l0.g YK k K ls=some v→_ from fun hv=>by
  unfold r9.l0.g at hv;split at hv
  · exact (congrFun (congrFun (congrFun (r9.l0.eq YK rl K _ _ _ _ _ _ k) _) _) _).trans hv
  · cases hv) hv) all_nil)
theorem r9.e1 {γ:Type}:gu (r9.C (γ:=γ)) ⟨0,139,2,iD [(r9.l1.p,r9.l1.g)]⟩:=r9.fE.jT Tryz.f139 [] (by kernel_rfl) (by kernel_rfl) (by kernel_rfl) (all_cons iF (all_cons iF all_nil)) (all_cons (fun YK rl k ls K v hv=>(show r9.l1.g YK k K ls=some v→_ from fun hv=>by
  unfold r9.l1.g at hv;split at hv
  · exact (congrFun (congrFun (congrFun (r9.l1.eq YK rl K _ _ _ _ _ _ k) _) _) _).trans hv
  · cases hv) hv) all_nil)
theorem r9.ok (k:Nat):iV Tryz.prog 139 (r9.m k).s:=okW r9.fE 0 Tryz.f139 k all_nil (fun k=>all_cons (agR.ok k) (all_cons (agS.ok k) (all_nil))) (all_cons ⟨Tryz.func139,by kernel_rfl⟩ all_nil) (all_cons r9.e0 (all_cons r9.e1 all_nil)) (by kernel_rfl) (by kernel_rfl) (fun a=>by kernel_rfl)
noncomputable def agI.m (k:Nat):Sm:=jd [.fm,(.int .i64)] [.pl (.int .i64),.pl .bool] (fun a=>agI.f k a.1.f0 a.1.f1 a.1.f2 a.1.f3 a.2.1)
noncomputable def agI.C {γ:Type}:Ctx γ:=mkC (fun k=>mkE [(139,r9.m k)] []) [(101,Tryz.f101)] [(101,mkA [] [] [] [])] [] []
theorem agI.fE {γ:Type}:(agI.C (γ:=γ)).Ok:=⟨(all_cons (fun k=>by kernel_rfl) all_nil),(all_cons (by kernel_rfl) all_nil),all_nil⟩
theorem agI.ok (k:Nat):iV Tryz.prog 101 (agI.m k).s:=okW agI.fE 0 Tryz.f101 k all_nil (fun k=>all_cons (r9.ok k) (all_nil)) (all_cons ⟨Tryz.func101,by kernel_rfl⟩ all_nil) all_nil (by kernel_rfl) (by kernel_rfl) (fun a=>by kernel_rfl)
noncomputable def agH.m (k:Nat):Sm:=jd [.fm,(.int .i64)] [.pl (.int .i64),.pl .bool] (fun a=>agH.f k a.1.f0 a.1.f1 a.1.f2 a.1.f3 a.2.1)
noncomputable def agH.C {γ:Type}:Ctx γ:=mkC (fun k=>mkE [(139,r9.m k)] []) [(102,Tryz.f102)] [(102,mkA [] [] [] [])] [] []
theorem agH.fE {γ:Type}:(agH.C (γ:=γ)).Ok:=⟨(all_cons (fun k=>by kernel_rfl) all_nil),(all_cons (by kernel_rfl) all_nil),all_nil⟩
theorem agH.ok (k:Nat):iV Tryz.prog 102 (agH.m k).s:=okW agH.fE 0 Tryz.f102 k all_nil (fun k=>all_cons (r9.ok k) (all_nil)) (all_cons ⟨Tryz.func102,by kernel_rfl⟩ all_nil) all_nil (by kernel_rfl) (by kernel_rfl) (fun a=>by kernel_rfl)
noncomputable def agr.m (k:Nat):Sm:=jd [.fm,(.sl 3 (.int .i64))] [.pl .bool] (fun a=>agr.f k a.1.f0 a.1.f1 a.1.f2 a.1.f3 a.2.1)
noncomputable def agr.l0.p:PS:=⟨[nO,.one (.s (.int .i64)),.one (.bp 0 0),nO,nO,.one (.s .sp),.one (.i .i64)]++nOs 29,[.box 25 [.i .i64,.i .i64,.s (.sl 42 .sp),.s .gr]]⟩
noncomputable def agr.l0.c {γ:Type} (YK:HdK γ) (K:dQ→St→Option γ) (c4:Int) (c5:Int) (c6:List (List P.S42)) (c7:List P.S44):=((K .ret ((⟨nOs 4++[.one (.lb false)]++nOs 31,[.box 25 [.i .i64,.i .i64,.s (.sl 42 .sp),.s .gr]]⟩:PS).mk' [.i c4,.i c5,.l (.sl 42 .sp) c6,.l .gr c7])),(K (.exit 0) ((⟨nOs 36,[.box 25 [.i .i64,.i .i64,.s (.sl 42 .sp),.s .gr]]⟩:PS).mk' [.i c4,.i c5,.l (.sl 42 .sp) c6,.l .gr c7])))
noncomputable def agr.l0.g {γ:Type} (YK:HdK γ) (k:Nat) (K:dQ→St→Option γ):List Lf→Option γ
  | [.l (.int .i64) c1,.l .sp v2,.i v3,.i c4,.i c5,.l (.sl 42 .sp) c6,.l .gr c7]=>let q:=agr.l0.c YK K c4 c5 c6 c7;agr.l0 q.1 q.2 c1 c4 c5 c6 c7 k v2 v3
  | _=>none
noncomputable def agr.C {γ:Type}:Ctx γ:=mkC (fun k=>mkE [(45,agF.m k),(138,aa2.m k)] []) [(103,Tryz.f103)] [(103,mkA [] [(0,[1,2,5,6])] [(0,[4])] [(1,[],[.un (.tm 5)])])] [⟨0,103,0,iD [(agr.l0.p,agr.l0.g)]⟩] []
theorem agr.l0.eq {γ:Type} (YK:HdK γ) (rl:Option Nat) (K:dQ→St→Option γ) (c1:List Int) (c4:Int) (c5:Int) (c6:List (List P.S42)) (c7:List P.S44):∀ k:Nat,(fun (v2:List P.S42) (v3:Int)=>agr.C.lK 0 103 0 Tryz.f103 YK rl 1 k (agr.l0.p.mk' [.l (.int .i64) c1,.l .sp v2,.i v3,.i c4,.i c5,.l (.sl 42 .sp) c6,.l .gr c7]) K)=(fun (v2:List P.S42) (v3:Int)=>agr.l0.g YK k K [.l (.int .i64) c1,.l .sp v2,.i v3,.i c4,.i c5,.l (.sl 42 .sp) c6,.l .gr c7]):=fH (fun R k v2 v3=>agr.l0T (agr.l0.c YK K c4 c5 c6 c7).1 (agr.l0.c YK K c4 c5 c6 c7).2 c1 c4 c5 c6 c7 R k v2 v3) (by kernel_rfl) (fun k=>by kernel_rfl) (fun k=>by kernel_rfl)
theorem agr.fE {γ:Type}:(agr.C (γ:=γ)).Ok:=⟨(all_cons (fun k=>by kernel_rfl) all_nil),(all_cons (by kernel_rfl) all_nil),all_nil⟩
theorem agr.e0 {γ:Type}:gu (agr.C (γ:=γ)) ⟨0,103,0,iD [(agr.l0.p,agr.l0.g)]⟩:=agr.fE.jT Tryz.f103 [] (by kernel_rfl) (by kernel_rfl) (by kernel_rfl) (all_cons iF all_nil) (all_cons (fun YK rl k ls K v hv=>(show agr.l0.g YK k K ls=some v→_ from fun hv=>by
  unfold agr.l0.g at hv;split at hv
  · exact (congrFun (congrFun (agr.l0.eq YK rl K _ _ _ _ _ k) _) _).trans hv
  · cases hv) hv) all_nil)
theorem agr.ok (k:Nat):iV Tryz.prog 103 (agr.m k).s:=okW agr.fE 0 Tryz.f103 k all_nil (fun k=>all_cons (agF.ok k) (all_cons (aa2.ok k) (all_nil))) (all_cons ⟨Tryz.func103,by kernel_rfl⟩ all_nil) (all_cons agr.e0 all_nil) (by kernel_rfl) (by kernel_rfl) (fun a=>by kernel_rfl)
noncomputable def aa4.m (k:Nat):Sm:=jd [.fm] [.pl (.int .i64)] (fun a=>aa4.f k a.1.f0 a.1.f1 a.1.f2 a.1.f3)
noncomputable def aa4.l1.p:PS:=⟨[nO,.one (.bp 0 0),nO,.one (.i .i64)]++nOs 79,[.box 25 [.i .i64,.i .i64,.s (.sl 42 .sp),.s .gr]]⟩
noncomputable def aa4.l1.c {γ:Type} (YK:HdK γ) (K:dQ→St→Option γ) (c2:Int) (c3:Int) (c4:List (List P.S42)) (c5:List P.S44):=((K .ret ((⟨[nO,nO,.one (.li .i64 50)]++nOs 80,[.box 25 [.i .i64,.i .i64,.s (.sl 42 .sp),.s .gr]]⟩:PS).mk' [.i c2,.i c3,.l (.sl 42 .sp) c4,.l .gr c5])),(K (.exit 0) ((⟨nOs 83,[.box 25 [.i .i64,.i .i64,.s (.sl 42 .sp),.s .gr]]⟩:PS).mk' [.i c2,.i c3,.l (.sl 42 .sp) c4,.l .gr c5])))
noncomputable def aa4.l1.g {γ:Type} (YK:HdK γ) (k:Nat) (K:dQ→St→Option γ):List Lf→Option γ
  | [.i v1,.i c2,.i c3,.l (.sl 42 .sp) c4,.l .gr c5]=>let q:=aa4.l1.c YK K c2 c3 c4 c5;aa4.l1 q.1 q.2 c2 c3 c4 c5 k v1
  | _=>none
noncomputable def aa4.l0.p:PS:=⟨[nO,.one (.bp 0 0)]++nOs 81,[.box 25 [.i .i64,.i .i64,.s (.sl 42 .sp),.s .gr]]⟩
noncomputable def aa4.l0.c {γ:Type} (YK:HdK γ) (K:dQ→St→Option γ)  := ((fun y1 y2 y3 y4=>K .ret ((⟨[nO,nO,.one (.li .i64 50)]++nOs 80,[.box 25 [.i .i64,.i .i64,.s (.sl 42 .sp),.s .gr]]⟩:PS).mk' [.i y1,.i y2,.l (.sl 42 .sp) y3,.l .gr y4])),(fun y1 y2 y3 y4=>K .ret ((⟨[nO,nO,.one (.li .i64 0)]++nOs 80,[.box 25 [.i .i64,.i .i64,.s (.sl 42 .sp),.s .gr]]⟩:PS).mk' [.i y1,.i y2,.l (.sl 42 .sp) y3,.l .gr y4])))
noncomputable def aa4.l0.g {γ:Type} (YK:HdK γ) (k:Nat) (K:dQ→St→Option γ):List Lf→Option γ
  | [.i v1,.i v2,.l (.sl 42 .sp) v3,.l .gr v4]=>let q:=aa4.l0.c YK K;aa4.l0 q.1 q.2 k v1 v2 v3 v4
  | _=>none
noncomputable def aa4.C {γ:Type}:Ctx γ:=mkC (fun k=>mkE [(97,aeA.m k),(98,qw.m k),(99,agv.m k),(100,agT.m k),(101,agI.m k),(102,agH.m k),(103,agr.m k)] []) [(52,Tryz.f52)] [(52,mkA [50,54,75] [(0,[1,3]),(1000010,[1])] [(0,[2]),(1000010,[2])] [])] [⟨0,52,0,iD [(aa4.l1.p,aa4.l1.g)]⟩,⟨0,52,1000010,iD [(aa4.l0.p,aa4.l0.g)]⟩] []
theorem aa4.l1.eq {γ:Type} (YK:HdK γ) (rl:Option Nat) (K:dQ→St→Option γ) (c2:Int) (c3:Int) (c4:List (List P.S42)) (c5:List P.S44):∀ k:Nat,(fun (v1:Int)=>aa4.C.lK 0 52 0 Tryz.f52 YK rl 1 k (aa4.l1.p.mk' [.i v1,.i c2,.i c3,.l (.sl 42 .sp) c4,.l .gr c5]) K)=(fun (v1:Int)=>aa4.l1.g YK k K [.i v1,.i c2,.i c3,.l (.sl 42 .sp) c4,.l .gr c5]):=fH (fun R k v1=>aa4.l1T (aa4.l1.c YK K c2 c3 c4 c5).1 (aa4.l1.c YK K c2 c3 c4 c5).2 c2 c3 c4 c5 R k v1) (by kernel_rfl) (fun k=>by kernel_rfl) (fun k=>by kernel_rfl)
theorem aa4.l0.eq {γ:Type} (YK:HdK γ) (rl:Option Nat) (K:dQ→St→Option γ) (k:Nat) (v1:Int) (v2:Int) (v3:List (List P.S42)) (v4:List P.S44):aa4.C.lK 0 52 1000010 Tryz.f52 YK rl 1 k (aa4.l0.p.mk' [.i v1,.i v2,.l (.sl 42 .sp) v3,.l .gr v4]) K=aa4.l0.g YK k K [.i v1,.i v2,.l (.sl 42 .sp) v3,.l .gr v4]:=by kernel_rfl
theorem aa4.fE {γ:Type}:(aa4.C (γ:=γ)).Ok:=⟨(all_cons (fun k=>by kernel_rfl) all_nil),(all_cons (by kernel_rfl) all_nil),all_nil⟩
theorem aa4.e0 {γ:Type}:gu (aa4.C (γ:=γ)) ⟨0,52,0,iD [(aa4.l1.p,aa4.l1.g)]⟩:=aa4.fE.jT Tryz.f52 [] (by kernel_rfl) (by kernel_rfl) (by kernel_rfl) (all_cons iF (all_cons iF all_nil)) (all_cons (fun YK rl k ls K v hv=>(show aa4.l1.g YK k K ls=some v→_ from fun hv=>by
  unfold aa4.l1.g at hv;split at hv
  · exact (congrFun (aa4.l1.eq YK rl K _ _ _ _ k) _).trans hv
  · cases hv) hv) all_nil)
theorem aa4.e1 {γ:Type}:gu (aa4.C (γ:=γ)) ⟨0,52,1000010,iD [(aa4.l0.p,aa4.l0.g)]⟩:=aa4.fE.jT Tryz.f52 [0] (by kernel_rfl) (by kernel_rfl) (by kernel_rfl) (all_cons (fun _=>aa4.e0) (all_cons iF all_nil)) (all_cons (fun YK rl k ls K v hv=>(show aa4.l0.g YK k K ls=some v→_ from fun hv=>by
  unfold aa4.l0.g at hv;split at hv
  · exact (aa4.l0.eq YK rl K k _ _ _ _).trans hv
  · cases hv) hv) all_nil)
theorem aa4.ok (k:Nat):iV Tryz.prog 52 (aa4.m k).s:=okW aa4.fE 0 Tryz.f52 k all_nil (fun k=>all_cons (aeA.ok k) (all_cons (qw.ok k) (all_cons (agv.ok k) (all_cons (agT.ok k) (all_cons (agI.ok k) (all_cons (agH.ok k) (all_cons (agr.ok k) (all_nil)))))))) (all_cons ⟨Tryz.func52,by kernel_rfl⟩ all_nil) (all_cons aa4.e0 (all_cons aa4.e1 all_nil)) (by kernel_rfl) (by kernel_rfl) (fun a=>by kernel_rfl)
end Go.Proofs.YtcomnjodjijcmaaGreat.R
namespace Go.Proofs.YtcomnjodjijcmaaGreat.R
open M Go.RowKit Go.Proofs.YtcomnjodjijcmaaGreatW.dz Go.Proofs.YtcomnjodjijcmaaGreatW.dX Go.Proofs.YtcomnjodjijcmaaGreatW.eD
set_option linter.unusedVariables false
noncomputable def aev.m (k:Nat):Sm:=jd [(.int .i64),.fm,.fm] [.pl .fm,.pl (.int .i64)] (fun a=>aev.f k a.1 a.2.1.f0 a.2.1.f1 a.2.1.f2 a.2.1.f3 a.2.2.1.f0 a.2.2.1.f1 a.2.2.1.f2 a.2.2.1.f3)
noncomputable def aev.l0.p:PS:=⟨[.one (.i .i64)]++nOs 3++[.one (.bp 0 0),.one (.bp 1 0),.one (.bp 2 0)]++nOs 3++[.one (.i .i64),nO,nO,.one (.bp 3 0),.one (.i .i64)]++nOs 116,[.box 25 [.i .i64,.i .i64,.s (.sl 42 .sp),.s .gr],.box 25 [.i .i64,.i .i64,.s (.sl 42 .sp),.s .gr],.box 25 [.li .i64 0,.li .i64 0,.lo 37 (.sl 42 .sp),.lo 44 .gr],.box 25 [.i .i64,.i .i64,.o 37 (.sl 42 .sp),.lo 44 .gr]]⟩
noncomputable def aev.l0.c {γ:Type} (YK:HdK γ) (K:dQ→St→Option γ) (c1:Int) (c4:Int) (c5:Int) (c6:List (List P.S42)) (c7:List P.S44) (c8:Int) (c9:Int) (c10:List (List P.S42)) (c11:List P.S44) (c12:Int) (c13:Int):=(fun y1=>K (.exit 0) ((⟨[.one (.i .i64)]++nOs 3++[.one (.bp 0 0),.one (.bp 1 0),.one (.bp 2 0)]++nOs 6++[.one (.bp 3 0)]++nOs 117,[.box 25 [.i .i64,.i .i64,.s (.sl 42 .sp),.s .gr],.box 25 [.i .i64,.i .i64,.s (.sl 42 .sp),.s .gr],.box 25 [.li .i64 0,.li .i64 0,.lo 37 (.sl 42 .sp),.lo 44 .gr],.box 25 [.i .i64,.i .i64,.o 37 (.sl 42 .sp),.lo 44 .gr]]⟩:PS).mk' [.i c1,.i c4,.i c5,.l (.sl 42 .sp) c6,.l .gr c7,.i c8,.i c9,.l (.sl 42 .sp) c10,.l .gr c11,.i c12,.i c13,.l (.sl 42 .sp) y1]))
noncomputable def aev.l0.g {γ:Type} (YK:HdK γ) (k:Nat) (K:dQ→St→Option γ):List Lf→Option γ
  | [.i c1,.i c2,.i v3,.i c4,.i c5,.l (.sl 42 .sp) c6,.l .gr c7,.i c8,.i c9,.l (.sl 42 .sp) c10,.l .gr c11,.i c12,.i c13,.l (.sl 42 .sp) v14]=>aev.l0 (aev.l0.c YK K c1 c4 c5 c6 c7 c8 c9 c10 c11 c12 c13) c1 c2 c4 c5 c6 c7 c8 c9 c10 c11 k v3 v14
  | _=>none
noncomputable def aev.l1.p:PS:=⟨[.one (.i .i64)]++nOs 3++[.one (.bp 0 0),.one (.bp 1 0),.one (.bp 2 0)]++nOs 6++[.one (.bp 3 0)]++nOs 5++[.one (.o 3 (.int .i64)),.one (.i .i64)]++nOs 110,[.box 25 [.i .i64,.i .i64,.s (.sl 42 .sp),.s .gr],.box 25 [.i .i64,.i .i64,.s (.sl 42 .sp),.s .gr],.box 25 [.li .i64 0,.li .i64 0,.lo 37 (.sl 42 .sp),.lo 44 .gr],.box 25 [.i .i64,.i .i64,.o 37 (.sl 42 .sp),.o 44 .gr]]⟩
noncomputable def aev.l1.c {γ:Type} (YK:HdK γ) (K:dQ→St→Option γ) (c4:Int) (c5:Int) (c6:List (List P.S42)) (c7:List P.S44) (c8:Int) (c9:Int) (c10:List (List P.S42)) (c11:List P.S44) (c12:Int) (c13:Int) (c14:List (List P.S42)):=(fun y1=>K (.exit 2) ((⟨nOs 6++[.one (.bp 2 0)]++nOs 6++[.one (.bp 3 0)]++nOs 117,[.box 25 [.i .i64,.i .i64,.s (.sl 42 .sp),.s .gr],.box 25 [.i .i64,.i .i64,.s (.sl 42 .sp),.s .gr],.box 25 [.li .i64 0,.li .i64 0,.lo 37 (.sl 42 .sp),.lo 44 .gr],.box 25 [.i .i64,.i .i64,.o 37 (.sl 42 .sp),.o 44 .gr]]⟩:PS).mk' [.i c4,.i c5,.l (.sl 42 .sp) c6,.l .gr c7,.i c8,.i c9,.l (.sl 42 .sp) c10,.l .gr c11,.i c12,.i c13,.l (.sl 42 .sp) c14,.l .gr y1]))
noncomputable def aev.l1.g {γ:Type} (YK:HdK γ) (k:Nat) (K:dQ→St→Option γ):List Lf→Option γ
  | [.i c1,.l (.int .i64) c2,.i v3,.i c4,.i c5,.l (.sl 42 .sp) c6,.l .gr c7,.i c8,.i c9,.l (.sl 42 .sp) c10,.l .gr c11,.i c12,.i c13,.l (.sl 42 .sp) c14,.l .gr v15]=>aev.l1 (aev.l1.c YK K c4 c5 c6 c7 c8 c9 c10 c11 c12 c13 c14) c1 c2 c4 c5 c6 c7 c8 c9 c10 c11 k v3 v15
  | _=>none
noncomputable def aev.C {γ:Type}:Ctx γ:=mkC (fun k=>mkE [(17,ags.m k),(43,nu.m k),(45,agF.m k),(47,agE.m k),(48,agQ.m k),(49,agP.m k),(50,agK.m k),(51,afv.m k),(52,aa4.m k)] []) [(18,Tryz.f18)] [(18,mkA [72,108] [(0,[0,4,5,6,10,13,14]),(2,[0,4,5,6,13,19,20])] [(0,[0,4,5,6,13]),(2,[6,13])] [])] [⟨0,18,0,iD [(aev.l0.p,aev.l0.g)]⟩,⟨0,18,2,iD [(aev.l1.p,aev.l1.g)]⟩] []
theorem aev.l0.eq {γ:Type} (YK:HdK γ) (rl:Option Nat) (K:dQ→St→Option γ) (c1:Int) (c2:Int) (c4:Int) (c5:Int) (c6:List (List P.S42)) (c7:List P.S44) (c8:Int) (c9:Int) (c10:List (List P.S42)) (c11:List P.S44) (c12:Int) (c13:Int):∀ k:Nat,(fun (v3:Int) (v14:List (List P.S42))=>aev.C.lK 0 18 0 Tryz.f18 YK rl 4 k (aev.l0.p.mk' [.i c1,.i c2,.i v3,.i c4,.i c5,.l (.sl 42 .sp) c6,.l .gr c7,.i c8,.i c9,.l (.sl 42 .sp) c10,.l .gr c11,.i c12,.i c13,.l (.sl 42 .sp) v14]) K)=(fun (v3:Int) (v14:List (List P.S42))=>aev.l0.g YK k K [.i c1,.i c2,.i v3,.i c4,.i c5,.l (.sl 42 .sp) c6,.l .gr c7,.i c8,.i c9,.l (.sl 42 .sp) c10,.l .gr c11,.i c12,.i c13,.l (.sl 42 .sp) v14]):=fH (fun R k v3 v14=>aev.l0T (aev.l0.c YK K c1 c4 c5 c6 c7 c8 c9 c10 c11 c12 c13) c1 c2 c4 c5 c6 c7 c8 c9 c10 c11 R k v3 v14) (by kernel_rfl) (fun k=>by kernel_rfl) (fun k=>by kernel_rfl)
theorem aev.l1.eq {γ:Type} (YK:HdK γ) (rl:Option Nat) (K:dQ→St→Option γ) (c1:Int) (c2:List Int) (c4:Int) (c5:Int) (c6:List (List P.S42)) (c7:List P.S44) (c8:Int) (c9:Int) (c10:List (List P.S42)) (c11:List P.S44) (c12:Int) (c13:Int) (c14:List (List P.S42)):∀ k:Nat,(fun (v3:Int) (v15:List P.S44)=>aev.C.lK 0 18 2 Tryz.f18 YK rl 4 k (aev.l1.p.mk' [.i c1,.l (.int .i64) c2,.i v3,.i c4,.i c5,.l (.sl 42 .sp) c6,.l .gr c7,.i c8,.i c9,.l (.sl 42 .sp) c10,.l .gr c11,.i c12,.i c13,.l (.sl 42 .sp) c14,.l .gr v15]) K)=(fun (v3:Int) (v15:List P.S44)=>aev.l1.g YK k K [.i c1,.l (.int .i64) c2,.i v3,.i c4,.i c5,.l (.sl 42 .sp) c6,.l .gr c7,.i c8,.i c9,.l (.sl 42 .sp) c10,.l .gr c11,.i c12,.i c13,.l (.sl 42 .sp) c14,.l .gr v15]):=fH (fun R k v3 v15=>aev.l1T (aev.l1.c YK K c4 c5 c6 c7 c8 c9 c10 c11 c12 c13 c14) c1 c2 c4 c5 c6 c7 c8 c9 c10 c11 R k v3 v15) (by kernel_rfl) (fun k=>by kernel_rfl) (fun k=>by kernel_rfl)
theorem aev.fE {γ:Type}:(aev.C (γ:=γ)).Ok:=⟨(all_cons (fun k=>by kernel_rfl) all_nil),(all_cons (by kernel_rfl) all_nil),all_nil⟩
theorem aev.e0 {γ:Type}:gu (aev.C (γ:=γ)) ⟨0,18,0,iD [(aev.l0.p,aev.l0.g)]⟩:=aev.fE.jT Tryz.f18 [] (by kernel_rfl) (by kernel_rfl) (by kernel_rfl) (all_cons iF (all_cons iF all_nil)) (all_cons (fun YK rl k ls K v hv=>(show aev.l0.g YK k K ls=some v→_ from fun hv=>by
  unfold aev.l0.g at hv;split at hv
  · exact (congrFun (congrFun (aev.l0.eq YK rl K _ _ _ _ _ _ _ _ _ _ _ _ k) _) _).trans hv
  · cases hv) hv) all_nil)
theorem aev.e1 {γ:Type}:gu (aev.C (γ:=γ)) ⟨0,18,2,iD [(aev.l1.p,aev.l1.g)]⟩:=aev.fE.jT Tryz.f18 [] (by kernel_rfl) (by kernel_rfl) (by kernel_rfl) (all_cons iF (all_cons iF all_nil)) (all_cons (fun YK rl k ls K v hv=>(show aev.l1.g YK k K ls=some v→_ from fun hv=>by
  unfold aev.l1.g at hv;split at hv
  · exact (congrFun (congrFun (aev.l1.eq YK rl K _ _ _ _ _ _ _ _ _ _ _ _ _ k) _) _).trans hv
  · cases hv) hv) all_nil)
theorem aev.ok (k:Nat):iV Tryz.prog 18 (aev.m k).s:=okW aev.fE 0 Tryz.f18 k all_nil (fun k=>all_cons (ags.ok k) (all_cons (nu.ok k) (all_cons (agF.ok k) (all_cons (agE.ok k) (all_cons (agQ.ok k) (all_cons (agP.ok k) (all_cons (agK.ok k) (all_cons (afv.ok k) (all_cons (aa4.ok k) (all_nil)))))))))) (all_cons ⟨Tryz.func18,by kernel_rfl⟩ all_nil) (all_cons aev.e0 (all_cons aev.e1 all_nil)) (by kernel_rfl) (by kernel_rfl) (fun a=>by kernel_rfl)
noncomputable def afx.m (k:Nat):Sm:=jd [.fm,.fm] [.pl .bool] (fun a=>afx.f k a.1.f0 a.1.f1 a.1.f2 a.1.f3 a.2.1.f0 a.2.1.f1 a.2.1.f2 a.2.1.f3)
noncomputable def afx.l0.p:PS:=⟨[nO,nO,.one (.bp 0 0),.one (.bp 1 0),nO,.one (.bp 2 0),.one (.bp 3 0)]++nOs 4++[.one (.i .i64)]++nOs 91,[.box 25 [.i .i64,.i .i64,.s (.sl 42 .sp),.s .gr],.box 25 [.i .i64,.i .i64,.s (.sl 42 .sp),.s .gr],.box 25 [.i .i64,.i .i64,.s (.sl 42 .sp),.s .gr],.box 25 [.i .i64,.i .i64,.s (.sl 42 .sp),.s .gr]]⟩
noncomputable def afx.l0.c {γ:Type} (YK:HdK γ) (K:dQ→St→Option γ) (c2:Int) (c3:Int) (c4:List (List P.S42)) (c5:List P.S44) (c6:Int) (c7:Int) (c8:List (List P.S42)) (c9:List P.S44) (c10:Int) (c11:Int) (c12:List (List P.S42)) (c13:List P.S44) (c14:Int) (c15:Int) (c16:List (List P.S42)) (c17:List P.S44):=((K .ret ((⟨[nO,nO,.one (.bp 0 0),.one (.bp 1 0),.one (.lb false),.one (.bp 2 0),.one (.bp 3 0)]++nOs 96,[.box 25 [.i .i64,.i .i64,.s (.sl 42 .sp),.s .gr],.box 25 [.i .i64,.i .i64,.s (.sl 42 .sp),.s .gr],.box 25 [.i .i64,.i .i64,.s (.sl 42 .sp),.s .gr],.box 25 [.i .i64,.i .i64,.s (.sl 42 .sp),.s .gr]]⟩:PS).mk' [.i c2,.i c3,.l (.sl 42 .sp) c4,.l .gr c5,.i c6,.i c7,.l (.sl 42 .sp) c8,.l .gr c9,.i c10,.i c11,.l (.sl 42 .sp) c12,.l .gr c13,.i c14,.i c15,.l (.sl 42 .sp) c16,.l .gr c17])),(K (.exit 0) ((⟨[nO,nO,.one (.bp 0 0),.one (.bp 1 0),nO,.one (.bp 2 0),.one (.bp 3 0)]++nOs 96,[.box 25 [.i .i64,.i .i64,.s (.sl 42 .sp),.s .gr],.box 25 [.i .i64,.i .i64,.s (.sl 42 .sp),.s .gr],.box 25 [.i .i64,.i .i64,.s (.sl 42 .sp),.s .gr],.box 25 [.i .i64,.i .i64,.s (.sl 42 .sp),.s .gr]]⟩:PS).mk' [.i c2,.i c3,.l (.sl 42 .sp) c4,.l .gr c5,.i c6,.i c7,.l (.sl 42 .sp) c8,.l .gr c9,.i c10,.i c11,.l (.sl 42 .sp) c12,.l .gr c13,.i c14,.i c15,.l (.sl 42 .sp) c16,.l .gr c17])))
noncomputable def afx.l0.g {γ:Type} (YK:HdK γ) (k:Nat) (K:dQ→St→Option γ):List Lf→Option γ
  | [.i v1,.i c2,.i c3,.l (.sl 42 .sp) c4,.l .gr c5,.i c6,.i c7,.l (.sl 42 .sp) c8,.l .gr c9,.i c10,.i c11,.l (.sl 42 .sp) c12,.l .gr c13,.i c14,.i c15,.l (.sl 42 .sp) c16,.l .gr c17]=>let q:=afx.l0.c YK K c2 c3 c4 c5 c6 c7 c8 c9 c10 c11 c12 c13 c14 c15 c16 c17;afx.l0 q.1 q.2 c2 c3 c4 c5 c6 c7 c8 c9 c10 c11 c12 c13 c14 c15 c16 c17 k v1
  | _=>none
noncomputable def afx.C {γ:Type}:Ctx γ:=mkC (fun k=>mkE [(8,dw.m k),(9,eF.m k),(11,dA.m k),(12,dJ.m k),(13,dG.m k),(14,cZ.m k),(15,aa3.m k),(16,agV.m k),(17,ags.m k),(18,aev.m k)] []) [(4,Tryz.f4)] [(4,mkA [] [(0,[2,3,5,6,11])] [(0,[2,3,4,5,6])] [])] [⟨0,4,0,iD [(afx.l0.p,afx.l0.g)]⟩] []
theorem afx.l0.eq {γ:Type} (YK:HdK γ) (rl:Option Nat) (K:dQ→St→Option γ) (c2:Int) (c3:Int) (c4:List (List P.S42)) (c5:List P.S44) (c6:Int) (c7:Int) (c8:List (List P.S42)) (c9:List P.S44) (c10:Int) (c11:Int) (c12:List (List P.S42)) (c13:List P.S44) (c14:Int) (c15:Int) (c16:List (List P.S42)) (c17:List P.S44):∀ k:Nat,(fun (v1:Int)=>afx.C.lK 0 4 0 Tryz.f4 YK rl 4 k (afx.l0.p.mk' [.i v1,.i c2,.i c3,.l (.sl 42 .sp) c4,.l .gr c5,.i c6,.i c7,.l (.sl 42 .sp) c8,.l .gr c9,.i c10,.i c11,.l (.sl 42 .sp) c12,.l .gr c13,.i c14,.i c15,.l (.sl 42 .sp) c16,.l .gr c17]) K)=(fun (v1:Int)=>afx.l0.g YK k K [.i v1,.i c2,.i c3,.l (.sl 42 .sp) c4,.l .gr c5,.i c6,.i c7,.l (.sl 42 .sp) c8,.l .gr c9,.i c10,.i c11,.l (.sl 42 .sp) c12,.l .gr c13,.i c14,.i c15,.l (.sl 42 .sp) c16,.l .gr c17]):=fH (fun R k v1=>afx.l0T (afx.l0.c YK K c2 c3 c4 c5 c6 c7 c8 c9 c10 c11 c12 c13 c14 c15 c16 c17).1 (afx.l0.c YK K c2 c3 c4 c5 c6 c7 c8 c9 c10 c11 c12 c13 c14 c15 c16 c17).2 c2 c3 c4 c5 c6 c7 c8 c9 c10 c11 c12 c13 c14 c15 c16 c17 R k v1) (by kernel_rfl) (fun k=>by kernel_rfl) (fun k=>by kernel_rfl)
theorem afx.fE {γ:Type}:(afx.C (γ:=γ)).Ok:=⟨(all_cons (fun k=>by kernel_rfl) all_nil),(all_cons (by kernel_rfl) all_nil),all_nil⟩
theorem afx.e0 {γ:Type}:gu (afx.C (γ:=γ)) ⟨0,4,0,iD [(afx.l0.p,afx.l0.g)]⟩:=afx.fE.jT Tryz.f4 [] (by kernel_rfl) (by kernel_rfl) (by kernel_rfl) (all_cons iF all_nil) (all_cons (fun YK rl k ls K v hv=>(show afx.l0.g YK k K ls=some v→_ from fun hv=>by
  unfold afx.l0.g at hv;split at hv
  · exact (congrFun (afx.l0.eq YK rl K _ _ _ _ _ _ _ _ _ _ _ _ _ _ _ _ k) _).trans hv
  · cases hv) hv) all_nil)
theorem afx.ok (k:Nat):iV Tryz.prog 4 (afx.m k).s:=okW afx.fE 0 Tryz.f4 k all_nil (fun k=>all_cons (dw.ok k) (all_cons (eF.ok k) (all_cons (dA.ok k) (all_cons (dJ.ok k) (all_cons (dG.ok k) (all_cons (cZ.ok k) (all_cons (aa3.ok k) (all_cons (agV.ok k) (all_cons (ags.ok k) (all_cons (aev.ok k) (all_nil))))))))))) (all_cons ⟨Tryz.func4,by kernel_rfl⟩ all_nil) (all_cons afx.e0 all_nil) (by kernel_rfl) (by kernel_rfl) (fun a=>by kernel_rfl)
noncomputable def afz.l2.p:PS:=⟨nOs 151,[.box 25 [.i .i64,.i .i64,.s (.sl 42 .sp),.s .gr],.box 25 [.i .i64,.i .i64,.s (.sl 42 .sp),.s .gr],.box 25 [.i .i64,.i .i64,.s (.sl 42 .sp),.s .gr],.box 25 [.i .i64,.i .i64,.s (.sl 42 .sp),.s .gr]]⟩
noncomputable def afz.l2.c {γ:Type} (YK:HdK γ) (K:dQ→St→Option γ)  := ((fun y1 y2 y3 y4 y5 y6 y7 y8 y9 aa ab ac y13 af ah ai aj ak am y20 y21 y22 y23 y24 y25 ao y27=>K .ret ((⟨nOs 6++[.one (.b)]++nOs 144,[.box 25 [.i .i64,.i .i64,.s (.sl 42 .sp),.s .gr],.box 25 [.i .i64,.i .i64,.s (.sl 42 .sp),.s .gr],.box 25 [.i .i64,.i .i64,.s (.sl 42 .sp),.s .gr],.box 25 [.i .i64,.i .i64,.s (.sl 42 .sp),.s .gr],.box 25 [.li .i64 0,.li .i64 0,.lo 37 (.sl 42 .sp),.s .gr],.box 25 [.li .i64 0,.li .i64 0,.lo 37 (.sl 42 .sp),.s .gr],.box 25 [.i .i64,.i .i64,.s (.sl 42 .sp),.s .gr],.box 25 [.i .i64,.i .i64,.s (.sl 42 .sp),.s .gr]]⟩:PS).mk' [.b y1,.i y2,.i y3,.l (.sl 42 .sp) y4,.l .gr y5,.i y6,.i y7,.l (.sl 42 .sp) y8,.l .gr y9,.i aa,.i ab,.l (.sl 42 .sp) ac,.l .gr y13,.i af,.i ah,.l (.sl 42 .sp) ai,.l .gr aj,.l .gr ak,.l .gr am,.i y20,.i y21,.l (.sl 42 .sp) y22,.l .gr y23,.i y24,.i y25,.l (.sl 42 .sp) ao,.l .gr y27])),(fun y1 y2 y3 y4 y5 y6 y7 y8 y9 aa ab ac y13 af ah ai aj ak am y20 y21 y22 y23 y24 y25 ao=>K .ret ((⟨nOs 6++[.one (.lb false)]++nOs 144,[.box 25 [.i .i64,.i .i64,.s (.sl 42 .sp),.s .gr],.box 25 [.i .i64,.i .i64,.s (.sl 42 .sp),.s .gr],.box 25 [.i .i64,.i .i64,.s (.sl 42 .sp),.s .gr],.box 25 [.i .i64,.i .i64,.s (.sl 42 .sp),.s .gr],.box 25 [.li .i64 0,.li .i64 0,.lo 37 (.sl 42 .sp),.s .gr],.box 25 [.li .i64 0,.li .i64 0,.lo 37 (.sl 42 .sp),.s .gr],.box 25 [.i .i64,.i .i64,.s (.sl 42 .sp),.s .gr],.box 25 [.i .i64,.i .i64,.s (.sl 42 .sp),.s .gr]]⟩:PS).mk' [.i y1,.i y2,.l (.sl 42 .sp) y3,.l .gr y4,.i y5,.i y6,.l (.sl 42 .sp) y7,.l .gr y8,.i y9,.i aa,.l (.sl 42 .sp) ab,.l .gr ac,.i y13,.i af,.l (.sl 42 .sp) ah,.l .gr ai,.l .gr aj,.l .gr ak,.i am,.i y20,.l (.sl 42 .sp) y21,.l .gr y22,.i y23,.i y24,.l (.sl 42 .sp) y25,.l .gr ao])))
noncomputable def afz.l2.g {γ:Type} (YK:HdK γ) (k:Nat) (K:dQ→St→Option γ):List Lf→Option γ
  | [.i v1,.i v2,.l (.sl 42 .sp) v3,.l .gr v4,.i v5,.i v6,.l (.sl 42 .sp) v7,.l .gr v8,.i v9,.i v10,.l (.sl 42 .sp) v11,.l .gr v12,.i v13,.i v14,.l (.sl 42 .sp) v15,.l .gr v16]=>let q:=afz.l2.c YK K;afz.l2 q.1 q.2 k v1 v2 v3 v4 v5 v6 v7 v8 v9 v10 v11 v12 v13 v14 v15 v16
  | _=>none
noncomputable def afz.l1.p:PS:=⟨nOs 3++[.one (.bp 0 0),.one (.bp 1 0)]++nOs 6++[.one (.b)]++nOs 139,[.box 25 [.i .i64,.i .i64,.s (.sl 42 .sp),.s .gr],.box 25 [.i .i64,.i .i64,.s (.sl 42 .sp),.s .gr]]⟩
noncomputable def afz.l1.c {γ:Type} (YK:HdK γ) (K:dQ→St→Option γ)  := ((fun y1 y2 y3 y4 y5 y6 y7 y8 y9 aa ab ac y13 af ah ai=>K .ret ((⟨nOs 6++[.one (.lb false)]++nOs 144,[.box 25 [.i .i64,.i .i64,.s (.sl 42 .sp),.s .gr],.box 25 [.i .i64,.i .i64,.s (.sl 42 .sp),.s .gr],.box 25 [.i .i64,.i .i64,.s (.sl 42 .sp),.s .gr],.box 25 [.i .i64,.i .i64,.s (.sl 42 .sp),.s .gr]]⟩:PS).mk' [.i y1,.i y2,.l (.sl 42 .sp) y3,.l .gr y4,.i y5,.i y6,.l (.sl 42 .sp) y7,.l .gr y8,.i y9,.i aa,.l (.sl 42 .sp) ab,.l .gr ac,.i y13,.i af,.l (.sl 42 .sp) ah,.l .gr ai])),(fun y1 y2 y3 y4 y5 y6 y7 y8 y9 aa ab ac y13 af ah ai aj ak am y20 y21 y22 y23 y24 y25 ao y27=>K .ret ((⟨nOs 6++[.one (.b)]++nOs 144,[.box 25 [.i .i64,.i .i64,.s (.sl 42 .sp),.s .gr],.box 25 [.i .i64,.i .i64,.s (.sl 42 .sp),.s .gr],.box 25 [.i .i64,.i .i64,.s (.sl 42 .sp),.s .gr],.box 25 [.i .i64,.i .i64,.s (.sl 42 .sp),.s .gr],.box 25 [.li .i64 0,.li .i64 0,.lo 37 (.sl 42 .sp),.s .gr],.box 25 [.li .i64 0,.li .i64 0,.lo 37 (.sl 42 .sp),.s .gr],.box 25 [.i .i64,.i .i64,.s (.sl 42 .sp),.s .gr],.box 25 [.i .i64,.i .i64,.s (.sl 42 .sp),.s .gr]]⟩:PS).mk' [.b y1,.i y2,.i y3,.l (.sl 42 .sp) y4,.l .gr y5,.i y6,.i y7,.l (.sl 42 .sp) y8,.l .gr y9,.i aa,.i ab,.l (.sl 42 .sp) ac,.l .gr y13,.i af,.i ah,.l (.sl 42 .sp) ai,.l .gr aj,.l .gr ak,.l .gr am,.i y20,.i y21,.l (.sl 42 .sp) y22,.l .gr y23,.i y24,.i y25,.l (.sl 42 .sp) ao,.l .gr y27])),(fun y1 y2 y3 y4 y5 y6 y7 y8 y9 aa ab ac y13 af ah ai aj ak am y20 y21 y22 y23 y24 y25 ao=>K .ret ((⟨nOs 6++[.one (.lb false)]++nOs 144,[.box 25 [.i .i64,.i .i64,.s (.sl 42 .sp),.s .gr],.box 25 [.i .i64,.i .i64,.s (.sl 42 .sp),.s .gr],.box 25 [.i .i64,.i .i64,.s (.sl 42 .sp),.s .gr],.box 25 [.i .i64,.i .i64,.s (.sl 42 .sp),.s .gr],.box 25 [.li .i64 0,.li .i64 0,.lo 37 (.sl 42 .sp),.s .gr],.box 25 [.li .i64 0,.li .i64 0,.lo 37 (.sl 42 .sp),.s .gr],.box 25 [.i .i64,.i .i64,.s (.sl 42 .sp),.s .gr],.box 25 [.i .i64,.i .i64,.s (.sl 42 .sp),.s .gr]]⟩:PS).mk' [.i y1,.i y2,.l (.sl 42 .sp) y3,.l .gr y4,.i y5,.i y6,.l (.sl 42 .sp) y7,.l .gr y8,.i y9,.i aa,.l (.sl 42 .sp) ab,.l .gr ac,.i y13,.i af,.l (.sl 42 .sp) ah,.l .gr ai,.l .gr aj,.l .gr ak,.i am,.i y20,.l (.sl 42 .sp) y21,.l .gr y22,.i y23,.i y24,.l (.sl 42 .sp) y25,.l .gr ao])))
noncomputable def afz.l1.g {γ:Type} (YK:HdK γ) (k:Nat) (K:dQ→St→Option γ):List Lf→Option γ
  | [.b v1,.i v2,.i v3,.l (.sl 42 .sp) v4,.l .gr v5,.i v6,.i v7,.l (.sl 42 .sp) v8,.l .gr v9]=>let q:=afz.l1.c YK K;afz.l1 q.1 q.2.1 q.2.2 k v1 v2 v3 v4 v5 v6 v7 v8 v9
  | _=>none
noncomputable def afz.l0.p:PS:=⟨[nO,nO,.one (.i .i16),.one (.bp 0 0),.one (.bp 1 0)]++nOs 146,[.box 25 [.i .i64,.i .i64,.s (.sl 42 .sp),.s .gr],.box 25 [.i .i64,.i .i64,.s (.sl 42 .sp),.s .gr]]⟩
noncomputable def afz.l0.c {γ:Type} (YK:HdK γ) (K:dQ→St→Option γ)  := ((fun y1 y2 y3 y4 y5 y6 y7 y8=>K .ret ((⟨nOs 6++[.one (.lb false)]++nOs 144,[.box 25 [.i .i64,.i .i64,.s (.sl 42 .sp),.s .gr],.box 25 [.i .i64,.i .i64,.s (.sl 42 .sp),.s .gr]]⟩:PS).mk' [.i y1,.i y2,.l (.sl 42 .sp) y3,.l .gr y4,.i y5,.i y6,.l (.sl 42 .sp) y7,.l .gr y8])),(fun y1 y2 y3 y4 y5 y6 y7 y8 y9 aa ab ac y13 af ah ai=>K .ret ((⟨nOs 6++[.one (.lb false)]++nOs 144,[.box 25 [.i .i64,.i .i64,.s (.sl 42 .sp),.s .gr],.box 25 [.i .i64,.i .i64,.s (.sl 42 .sp),.s .gr],.box 25 [.i .i64,.i .i64,.s (.sl 42 .sp),.s .gr],.box 25 [.i .i64,.i .i64,.s (.sl 42 .sp),.s .gr]]⟩:PS).mk' [.i y1,.i y2,.l (.sl 42 .sp) y3,.l .gr y4,.i y5,.i y6,.l (.sl 42 .sp) y7,.l .gr y8,.i y9,.i aa,.l (.sl 42 .sp) ab,.l .gr ac,.i y13,.i af,.l (.sl 42 .sp) ah,.l .gr ai])),(fun y1 y2 y3 y4 y5 y6 y7 y8 y9 aa ab ac y13 af ah ai aj ak am y20 y21 y22 y23 y24 y25 ao y27=>K .ret ((⟨nOs 6++[.one (.b)]++nOs 144,[.box 25 [.i .i64,.i .i64,.s (.sl 42 .sp),.s .gr],.box 25 [.i .i64,.i .i64,.s (.sl 42 .sp),.s .gr],.box 25 [.i .i64,.i .i64,.s (.sl 42 .sp),.s .gr],.box 25 [.i .i64,.i .i64,.s (.sl 42 .sp),.s .gr],.box 25 [.li .i64 0,.li .i64 0,.lo 37 (.sl 42 .sp),.s .gr],.box 25 [.li .i64 0,.li .i64 0,.lo 37 (.sl 42 .sp),.s .gr],.box 25 [.i .i64,.i .i64,.s (.sl 42 .sp),.s .gr],.box 25 [.i .i64,.i .i64,.s (.sl 42 .sp),.s .gr]]⟩:PS).mk' [.b y1,.i y2,.i y3,.l (.sl 42 .sp) y4,.l .gr y5,.i y6,.i y7,.l (.sl 42 .sp) y8,.l .gr y9,.i aa,.i ab,.l (.sl 42 .sp) ac,.l .gr y13,.i af,.i ah,.l (.sl 42 .sp) ai,.l .gr aj,.l .gr ak,.l .gr am,.i y20,.i y21,.l (.sl 42 .sp) y22,.l .gr y23,.i y24,.i y25,.l (.sl 42 .sp) ao,.l .gr y27])),(fun y1 y2 y3 y4 y5 y6 y7 y8 y9 aa ab ac y13 af ah ai aj ak am y20 y21 y22 y23 y24 y25 ao=>K .ret ((⟨nOs 6++[.one (.lb false)]++nOs 144,[.box 25 [.i .i64,.i .i64,.s (.sl 42 .sp),.s .gr],.box 25 [.i .i64,.i .i64,.s (.sl 42 .sp),.s .gr],.box 25 [.i .i64,.i .i64,.s (.sl 42 .sp),.s .gr],.box 25 [.i .i64,.i .i64,.s (.sl 42 .sp),.s .gr],.box 25 [.li .i64 0,.li .i64 0,.lo 37 (.sl 42 .sp),.s .gr],.box 25 [.li .i64 0,.li .i64 0,.lo 37 (.sl 42 .sp),.s .gr],.box 25 [.i .i64,.i .i64,.s (.sl 42 .sp),.s .gr],.box 25 [.i .i64,.i .i64,.s (.sl 42 .sp),.s .gr]]⟩:PS).mk' [.i y1,.i y2,.l (.sl 42 .sp) y3,.l .gr y4,.i y5,.i y6,.l (.sl 42 .sp) y7,.l .gr y8,.i y9,.i aa,.l (.sl 42 .sp) ab,.l .gr ac,.i y13,.i af,.l (.sl 42 .sp) ah,.l .gr ai,.l .gr aj,.l .gr ak,.i am,.i y20,.l (.sl 42 .sp) y21,.l .gr y22,.i y23,.i y24,.l (.sl 42 .sp) y25,.l .gr ao])))
noncomputable def afz.l0.g {γ:Type} (YK:HdK γ) (k:Nat) (K:dQ→St→Option γ):List Lf→Option γ
  | [.i v1,.i v2,.i v3,.l (.sl 42 .sp) v4,.l .gr v5,.i v6,.i v7,.l (.sl 42 .sp) v8,.l .gr v9]=>let q:=afz.l0.c YK K;afz.l0 q.1 q.2.1 q.2.2.1 q.2.2.2 k v1 v2 v3 v4 v5 v6 v7 v8 v9
  | _=>none
noncomputable def afz.C {γ:Type}:Ctx γ:=mkC (fun k=>mkE [(8,dw.m k),(9,eF.m k),(11,dA.m k),(12,dJ.m k),(13,dG.m k),(14,cZ.m k),(16,agV.m k),(19,fU.m k),(20,gX.m k)] []) [(5,Tryz.f5)] [(5,mkA [] [(1000010,[2,3,4]),(1000025,[3,4,11]),(1000037,[])] [(1000010,[6]),(1000025,[6]),(1000037,[6])] [])] [⟨0,5,1000037,iD [(afz.l2.p,afz.l2.g)]⟩,⟨0,5,1000025,iD [(afz.l1.p,afz.l1.g)]⟩,⟨0,5,1000010,iD [(afz.l0.p,afz.l0.g)]⟩] []
theorem afz.l2.eq {γ:Type} (YK:HdK γ) (rl:Option Nat) (K:dQ→St→Option γ) (k:Nat) (v1:Int) (v2:Int) (v3:List (List P.S42)) (v4:List P.S44) (v5:Int) (v6:Int) (v7:List (List P.S42)) (v8:List P.S44) (v9:Int) (v10:Int) (v11:List (List P.S42)) (v12:List P.S44) (v13:Int) (v14:Int) (v15:List (List P.S42)) (v16:List P.S44):afz.C.lK 0 5 1000037 Tryz.f5 YK rl 4 k (afz.l2.p.mk' [.i v1,.i v2,.l (.sl 42 .sp) v3,.l .gr v4,.i v5,.i v6,.l (.sl 42 .sp) v7,.l .gr v8,.i v9,.i v10,.l (.sl 42 .sp) v11,.l .gr v12,.i v13,.i v14,.l (.sl 42 .sp) v15,.l .gr v16]) K=afz.l2.g YK k K [.i v1,.i v2,.l (.sl 42 .sp) v3,.l .gr v4,.i v5,.i v6,.l (.sl 42 .sp) v7,.l .gr v8,.i v9,.i v10,.l (.sl 42 .sp) v11,.l .gr v12,.i v13,.i v14,.l (.sl 42 .sp) v15,.l .gr v16]:=by kernel_rfl
theorem afz.l1.eq {γ:Type} (YK:HdK γ) (rl:Option Nat) (K:dQ→St→Option γ) (k:Nat) (v1:Bool) (v2:Int) (v3:Int) (v4:List (List P.S42)) (v5:List P.S44) (v6:Int) (v7:Int) (v8:List (List P.S42)) (v9:List P.S44):afz.C.lK 0 5 1000025 Tryz.f5 YK rl 2 k (afz.l1.p.mk' [.b v1,.i v2,.i v3,.l (.sl 42 .sp) v4,.l .gr v5,.i v6,.i v7,.l (.sl 42 .sp) v8,.l .gr v9]) K=afz.l1.g YK k K [.b v1,.i v2,.i v3,.l (.sl 42 .sp) v4,.l .gr v5,.i v6,.i v7,.l (.sl 42 .sp) v8,.l .gr v9]:=by kernel_rfl
theorem afz.l0.eq {γ:Type} (YK:HdK γ) (rl:Option Nat) (K:dQ→St→Option γ) (k:Nat) (v1:Int) (v2:Int) (v3:Int) (v4:List (List P.S42)) (v5:List P.S44) (v6:Int) (v7:Int) (v8:List (List P.S42)) (v9:List P.S44):afz.C.lK 0 5 1000010 Tryz.f5 YK rl 2 k (afz.l0.p.mk' [.i v1,.i v2,.i v3,.l (.sl 42 .sp) v4,.l .gr v5,.i v6,.i v7,.l (.sl 42 .sp) v8,.l .gr v9]) K=afz.l0.g YK k K [.i v1,.i v2,.i v3,.l (.sl 42 .sp) v4,.l .gr v5,.i v6,.i v7,.l (.sl 42 .sp) v8,.l .gr v9]:=by kernel_rfl
end Go.Proofs.YtcomnjodjijcmaaGreat.R
namespace Go.Proofs.YtcomnjodjijcmaaGreat.M
noncomputable section
set_option linter.unusedVariables false
set_option linter.unusedSimpArgs false
open Go.RowKit Go.Proofs.YtcomnjodjijcmaaGreatW.dz Go.Proofs.YtcomnjodjijcmaaGreatW.dX
def gh0 (W:World):Gh:={ ow:=fun _=>none,pr:=fun b _=>b<W.heap.size,bx:=fun _=>0,lr:=fun _=>default,lv:=fun _=>False,av:=fun _=>undef }
theorem cp0 {W:World} {a:Addr} {v:Value} (h:W.cell? a=some v):jW (gh0 W) W a v:=⟨h,by
  show a.block<W.heap.size;unfold World.cell? at h;cases hb:W.heap[a.block]? with
  | none=>rw [hb] at h;cases h
  | some _=>exact (Array.getElem?_eq_some_iff.1 hb).1⟩
theorem row0 {α:Type} {R R':α→List Value→Prop} {sz n:Nat} (hz:0<sz) {W:World} (hR:∀ x cs,R x cs→R' x cs) {A:Option Addr} {xs:List α} (h:jX R sz W A n xs):abT R' sz (jW (gh0 W) W) A xs:=fun i x hx=>by
  obtain ⟨hl,_,h⟩:=h;have hi:0<n:=by have:=(List.getElem?_eq_some_iff.1 hx).1;omega
  obtain ⟨ad,rfl,h2⟩:=h hi;obtain ⟨c,hc,hr,hcell⟩:=h2 i x hx;have hs:ad.spot=none:=by
    obtain ⟨c0,hc0,_,hcell0⟩:=h2 0 _ (List.getElem?_eq_getElem (by omega));have:=hcell0 0 (c0[0]'(by omega)) (by simp);rw [Nat.zero_mul] at this;exact pK this
  obtain ⟨b,o,s⟩:=ad;obtain rfl:s=none:=hs;refine ⟨b,o,c,rfl,hR _ _ hr,hc,fun j v hv => ?_⟩;have:=hcell j v hv;rw [Addr.add_mid] at this;exact cp0 this
theorem sl0 {α:Type} {R R':α→List Value→Prop} {sz c:Nat} (hz:0<sz) {W:World} (hR:∀ x cs,R x cs→R' x cs) {A:Option Addr} {xs:List α} (hc:xs.length≤c) (h:jX R sz W A xs.length xs):SlR R' sz (jW (gh0 W) W) xs (.slice A xs.length c):=⟨A,c,rfl,hc,row0 hz hR h⟩
theorem fm0 {W:World} (p c:Int) {A2:Option Addr} {c2:Nat} {core:List (List P.S42)} {A3:Option Addr} {c3:Nat} {odd:List P.S44} (h2:Kd.C (Kd.slice 42 P.k42) W A2 core.length core) (l2:core.length≤c2) (h3:Kd.C P.k44 W A3 odd.length odd) (l3:odd.length≤c3) :
    Ty.fm.R (jW (gh0 W) W) ⟨p,c,core,odd⟩ [.int .i64 p,.int .i64 c,.slice A2 core.length c2,.slice A3 odd.length c3] :=
  ⟨_,_,rfl,sl0 (by decide) (fun x cs h=>by
    obtain ⟨A,k,rfl,hl,hk⟩:=h;exact ⟨_,rfl,sl0 (by decide) (fun x cs h=>P.wZ h) hl hk⟩) l2 h2,sl0 (by decide) (fun x cs h=>by
    obtain ⟨A,k,rfl,hl,hk⟩:=P.ab6 h;exact ⟨_,rfl,sl0 (by decide) (fun x cs h=>P.wZ h) hl hk⟩) l3 h3⟩
def aeB (W:World):(ts:List Ty)→mE ts→List Value→Prop
  | [],_,[]=>True
  | t :: ts,a,v :: vs=>(∃ ws,t.R (jW (gh0 W) W) a.1 ws∧VW t ws v)∧aeB W ts a.2 vs
  | _,_,_=>False
theorem afC {W:World}:∀ {ts:List Ty} {a:mE ts} {vs:List Value},aeB W ts a vs→(jD ts a).length=vs.length∧∀ (i:Nat) (x:AV) (v:Value),(jD ts a)[i]? = some x→vs[i]? = some v→∀ fr' i',AVR 0 (gh0 W) W fr' i' x v
  | [],_,[],_=>⟨rfl,fun i x v hx=>by simp [jD] at hx⟩
  | [],_,_ :: _,h=>h.elim
  | _ :: _,_,[],h=>h.elim
  | t :: ts,a,v :: vs,⟨⟨ws,h1,h2⟩,h3⟩=>by
    obtain ⟨q1,q2⟩:=afC h3;refine ⟨by simp [jD,q1],fun i x u hx hu fr' i' => ?_⟩;cases i with
    | zero =>
      simp [jD] at hx hu
      subst hx;subst hu;exact aen _ t a.1 h1 h2
    | succ i=>exact q2 i x u (by simpa [jD] using hx) (by simpa using hu) fr' i'
theorem Ty.of_cells:(t:Ty)→(x:t.T)→t.of (t.cells x)=some x
  | .int k,x=>by simp [Ty.of,Ty.cells]
  | .bool,x=>rfl
  | .str,x=>rfl
  | .sp,x=>rfl
  | .gr,x=>by simp [Ty.of,Ty.cells,Cell.asL]
  | .fm,x=>by simp [Ty.of,Ty.cells,Cell.asL]
  | .ff,x=>rfl
  | .pr,x=>by simp [Ty.of,Ty.cells,Cell.asL]
  | .sl _ t,x=>by simp [Ty.of,Ty.cells,Cell.asL]
theorem afD (t:Ty) (x:t.T):rdP t (mkP t x)=some x:=by
  have h:=Ty.of_cells t x;cases t <;> simpa [mkP,rdP,Ty.cells,Ty.ag] using h
theorem vw:(ts:List Ty)→(a:mE ts)→mM ts (jD ts a)=some a
  | [],_=>rfl
  | t :: ts,a=>by
    simp only [jD,mM,afD,vw ts a.2];rfl
theorem aa6 {P:Program} {f:FuncId} {ts:List Ty} {F:mE ts→Option Bool} (h:iV P f (jd ts [.pl .bool] F).s) {W:World} {a:mE ts} {vs:List Value} (hR:aeB W ts a vs) (hF:F a=some true) :
    Calls P f vs.toArray W fun e W'=>e=.returned (.bool true)∧Below W.heap.size W W':=by
  obtain ⟨fn,_,_,_,h⟩:=h;obtain ⟨q1,q2⟩:=afC hR;have hs:(jd ts [.pl .bool] F).s (jD ts a)=some (zG [.pl .bool] true):=by
    show ((mM ts (jD ts a)).map F).bind _=_;rw [vw];show (F a).map _=_;rw [hF];rfl
  refine (h 0 (gh0 W) W 0 0 _ _ _ ⟨fun b o hb=>hb,fun b ℓ hl=>by cases hl⟩ (by simpa using q1) (fun i x v hx hv=>q2 i x v hx (by simpa using hv)) hs).mono ?_;rintro e W' ⟨v,rfl,g',_,_,hE,hv⟩;refine ⟨?_,⟨hE.os,hE.tape,hE.output,hE.size,fun b hb=>(hE.far b hb (fun ℓ hl=>by cases hl)).1⟩⟩;have hv:v=.bool true∧_:=hv;rw [hv.1]
end
end Go.Proofs.YtcomnjodjijcmaaGreat.M
namespace Go.Proofs.YtcomnjodjijcmaaGreat.P
set_option linter.unusedVariables false
set_option linter.unusedSimpArgs false
open Go.RowKit
def SL (lo hi:Int):List Sp→Prop
  | []=>True
  | s :: r=>lo≤s.f0∧s.f0≤s.f1∧s.f1≤hi∧SL (s.f1+2) hi r
def vL (l:List Sp) (x:Int):Bool:=l.any fun s=>decide (s.f0≤x)&&decide (x≤s.f1)
theorem ahu (x:Int):vL [] x=false:=rfl
theorem kQ (s:Sp) (r:List Sp) (x:Int):vL (s :: r) x=((decide (s.f0≤x)&&decide (x≤s.f1)) || vL r x):=rfl
theorem agZ (l m:List Sp) (x:Int):vL (l++m) x=(vL l x || vL m x):=by simp [vL]
theorem vB {l:List Sp} {x:Int}:vL l x=true↔∃ s∈l,s.f0≤x∧x≤s.f1:=by simp [vL]
theorem SL.mono {lo lo' hi:Int} (h:lo'≤lo):∀ {l:List Sp},SL lo hi l→SL lo' hi l
  | [],_=>trivial
  | _ :: _,hs=>⟨by have:=hs.1;omega,hs.2⟩
theorem SL.low {lo hi:Int} {l:List Sp} (hs:SL lo hi l) {x:Int} (hx:x<lo):vL l x=false:=by
  induction l generalizing lo with
  | nil=>rfl
  | cons s r ih =>
    obtain ⟨h1,h2,h3,h4⟩:=hs;rw [kQ,ih h4 (by omega)];have:¬ s.f0≤x:=by omega
    simp [this]
theorem SL.high {lo hi:Int} {l:List Sp} (hs:SL lo hi l) {x:Int} (hx:hi<x):vL l x=false:=by
  induction l generalizing lo with
  | nil=>rfl
  | cons s r ih =>
    obtain ⟨h1,h2,h3,h4⟩:=hs;rw [kQ,ih h4];have:¬ x≤s.f1:=by omega
    simp [this]
theorem SL.ticks {lo hi:Int} {l:List Sp} (hs:SL lo hi l) {s:Sp} (h:s∈l):lo≤s.f0∧s.f0≤s.f1∧s.f1≤hi:=by
  induction l generalizing lo with
  | nil=>simp at h
  | cons t r ih =>
    obtain ⟨h1,h2,h3,h4⟩:=hs;rcases List.mem_cons.1 h with rfl | h
    · exact ⟨h1,h2,h3⟩
    · obtain ⟨a,b,c⟩:=ih h4 h
      exact ⟨by omega,b,c⟩
theorem SL.uniq {hi hi':Int}:∀ {l m:List Sp} {lo lo':Int},SL lo hi l→SL lo' hi' m→(∀ x,vL l x=vL m x)→l=m
  | [],[],_,_,_,_,_=>rfl
  | [],t :: r,_,_,_,hm,h=>by
    have:=h t.f0;rw [kQ] at this;have h2:=hm.2.1;simp [ahu,h2] at this
  | s :: r,[],_,_,hl,_,h=>by
    have:=h s.f0;rw [kQ] at this;have h2:=hl.2.1;simp [ahu,h2] at this
  | s :: r,t :: q,lo,lo',hl,hm,h=>by
    obtain ⟨a1,a2,a3,a4⟩:=hl;obtain ⟨b1,b2,b3,b4⟩:=hm;have key:∀ {s t:Sp} {r q:List Sp} {hi hi':Int},s.f0≤s.f1→t.f0≤t.f1→SL (s.f1+2) hi r→SL (t.f1+2) hi' q→(∀ x,vL (s :: r) x=vL (t :: q) x)→t.f0≤s.f0:=by
      intro s t r q hi hi' a2 b2 a4 b4 h;by_cases hlt:t.f0≤s.f0
      · exact hlt
      · have hx:=h s.f0
        rw [kQ,kQ,b4.low (by omega)] at hx;have:¬ t.f0≤s.f0:=hlt;simp [this,a2] at hx
    have e0:s.f0=t.f0:=by
      have h1:=key a2 b2 a4 b4 h;have h2:=key b2 a2 b4 a4 (fun x=>(h x).symm);omega
    have key2:∀ {s t:Sp} {r q:List Sp} {hi hi':Int},s.f0=t.f0→s.f0≤s.f1→t.f0≤t.f1→SL (s.f1+2) hi r→SL (t.f1+2) hi' q→(∀ x,vL (s :: r) x=vL (t :: q) x)→t.f1≤s.f1:=by
      intro s t r q hi hi' e0 a2 b2 a4 b4 h;by_cases hlt:t.f1≤s.f1
      · exact hlt
      · have hx:=h (s.f1+1)
        rw [kQ,kQ,a4.low (by omega)] at hx;have c1:¬ s.f1+1≤s.f1:=by omega
        have c2:t.f0≤s.f1+1:=by omega
        have c3:s.f1+1≤t.f1:=by omega
        simp [c2,c3] at hx
        omega
    have e1:s.f1=t.f1:=by
      have h1:=key2 e0 a2 b2 a4 b4 h;have h2:=key2 e0.symm b2 a2 b4 a4 (fun x=>(h x).symm);omega
    have est:s=t:=by cases s;cases t;simp only at e0 e1;rw [e0,e1]
    subst est;have:r=q:=SL.uniq a4 b4 (fun x=>by
      have hx:=h x;rw [kQ,kQ] at hx;by_cases hc:x<s.f1+2
      · rw [a4.low hc,b4.low hc]
      · have:¬ x≤s.f1:=by omega
        simpa [this] using hx)
    rw [this]
def Inv (hi:Int) (a:List Sp) (i:Bool) (p:Int):Prop :=
  match a,i with
  | [],i=>i=false
  | s :: r,true=>s.f0≤p∧p≤s.f1∧s.f1≤hi∧SL (s.f1+2) hi r
  | s :: r,false=>SL (p+1) hi (s :: r)
theorem mR {n:Int} (h1 : -9223372036854775808≤n) (h2:n≤9223372036854775807):wrap64 n=n:=by unfold wrap64;omega
theorem Inv.nxt {hi p:Int} {a:List Sp} {i:Bool} (h:Inv hi a i p) (hp : -4611686018427387904≤p) (hh:hi≤4611686018427387904) (hn:a≠[]):p<adU a i∧adU a i≤hi+1:=by
  match a,i,hn with
  | s :: r,true,_ =>
    obtain ⟨h1,h2,h3,h4⟩:=h;have hw:wrap64 (s.f1+1)=s.f1+1:=mR (by omega) (by omega);simp only [adU,hw];omega
  | s :: r,false,_ =>
    obtain ⟨h1,h2,h3,h4⟩:=h;simp only [adU];omega
theorem Inv.step {hi p t:Int} {a:List Sp} {i:Bool} (h:Inv hi a i p) (hp : -4611686018427387904≤p) (hh:hi≤4611686018427387904) (hpt:p<t) (ht:a≠[]→t≤adU a i) :
    Inv hi (aal a i t).1 (aal a i t).2 t∧(∀ x,t≤x→vL (aal a i t).1 x=vL a x)∧(∀ x,p≤x→x<t→vL a x=i):=by
  match a,i with
  | [],i =>
    have:i=false:=h;subst this;exact ⟨rfl,fun _ _=>rfl,fun _ _ _=>rfl⟩
  | s :: r,true =>
    obtain ⟨h1,h2,h3,h4⟩:=h;have hw:wrap64 (s.f1+1)=s.f1+1:=mR (by omega) (by omega);have ht':=ht (by simp);simp only [adU,hw] at ht';have hin:∀ x,p≤x→x<t→vL (s :: r) x=true:=fun x a b=>by
      have c1:s.f0≤x:=by omega
      have c2:x≤s.f1:=by omega
      simp [kQ,c1,c2]
    simp only [aal,hw];by_cases e:s.f1+1=t
    · rw [if_pos e]
      refine ⟨?_,fun x hx => ?_,hin⟩
      · cases r with
        | nil=>rfl
        | cons u r=>exact SL.mono (by omega) h4
      · have:¬ x≤s.f1:=by omega
        simp [kQ,this]
    · rw [if_neg e]
      exact ⟨⟨by omega,by omega,h3,h4⟩,fun _ _=>rfl,hin⟩
  | s :: r,false =>
    obtain ⟨h1,h2,h3,h4⟩:=h;have ht':=ht (by simp);simp only [adU] at ht';have hout:∀ x,p≤x→x<t→vL (s :: r) x=false:=fun x a b=>by
      have c1:¬ s.f0≤x:=by omega
      rw [kQ,h4.low (by omega)];simp [c1]
    simp only [aal];by_cases e:s.f0=t
    · rw [if_pos e]
      exact ⟨⟨by omega,by omega,h3,h4⟩,fun _ _=>rfl,hout⟩
    · rw [if_neg e]
      exact ⟨⟨by omega,h2,h3,h4⟩,fun _ _=>rfl,hout⟩
def ins:List Int→Int→List Int
  | [],x=>[x]
  | y :: r,x=>if y=x then y :: r else if y>x then x :: y :: r else y :: ins r x
def Up (l:List Int):Prop:=l.Pairwise (· < ·)
theorem air (l:List Int) (x z:Int):z∈ins l x↔z∈l∨z=x:=by
  induction l with
  | nil=>simp [ins]
  | cons y r ih =>
    simp only [ins];by_cases h:y=x
    · rw [if_pos h];subst h;simp;exact fun e=>.inl e
    · rw [if_neg h]
      by_cases h2:y>x
      · rw [if_pos h2];simp;constructor
        · rintro (h | h | h)
          · exact .inr h
          · exact .inl (.inl h)
          · exact .inl (.inr h)
        · rintro ((h | h) | h)
          · exact .inr (.inl h)
          · exact .inr (.inr h)
          · exact .inl h
      · rw [if_neg h2];simp [ih,or_assoc]
theorem aiN {l:List Int} (h:Up l) (x:Int):Up (ins l x):=by
  induction l with
  | nil=>simp [ins,Up]
  | cons y r ih =>
    have hy:=(List.pairwise_cons.1 h);simp only [ins];by_cases h1:y=x
    · rw [if_pos h1];exact h
    · rw [if_neg h1]
      by_cases h2:y>x
      · rw [if_pos h2]
        refine List.pairwise_cons.2 ⟨fun z hz => ?_,h⟩;rcases List.mem_cons.1 hz with rfl | hz
        · exact h2
        · exact Int.lt_trans h2 (hy.1 z hz)
      · rw [if_neg h2]
        refine List.pairwise_cons.2 ⟨fun z hz => ?_,ih hy.2⟩;rcases (air r x z).1 hz with hz | rfl
        · exact hy.1 z hz
        · omega
theorem ahz (l:List Int) (x:Int):(ins l x).length≤l.length+1:=by
  induction l with
  | nil=>simp [ins]
  | cons y r ih =>
    simp only [ins];split
    · simp
    · split <;> simp;omega
def plc:List Sp→List Int→List Int
  | [],p=>p
  | s :: r,p=>plc r (ins (ins p s.f0) (s.f1+1))
theorem ah8 (l:List Sp):∀ (p:List Int) (z:Int),z∈plc l p↔z∈p∨∃ s∈l,z=s.f0∨z=s.f1+1:=by
  induction l with
  | nil=>intro p z;simp [plc]
  | cons s r ih =>
    intro p z;simp only [plc,ih,air,List.mem_cons];constructor
    · rintro (((h | h) | h) | ⟨t,ht,h⟩)
      · exact .inl h
      · exact .inr ⟨s,.inl rfl,.inl h⟩
      · exact .inr ⟨s,.inl rfl,.inr h⟩
      · exact .inr ⟨t,.inr ht,h⟩
    · rintro (h | ⟨t,rfl | ht,h⟩)
      · exact .inl (.inl (.inl h))
      · rcases h with h | h
        · exact .inl (.inl (.inr h))
        · exact .inl (.inr h)
      · exact .inr ⟨t,ht,h⟩
theorem aiZ (l:List Sp):∀ {p:List Int},Up p→Up (plc l p):=by
  induction l with
  | nil=>intro p h;exact h
  | cons s r ih=>intro p h;exact ih (aiN (aiN h _) _)
theorem ais (l:List Sp):∀ (p:List Int),(plc l p).length≤p.length+2*l.length:=by
  induction l with
  | nil=>intro p;simp [plc]
  | cons s r ih =>
    intro p;have h1:=ih (ins (ins p s.f0) (s.f1+1));have h2:=ahz (ins p s.f0) (s.f1+1);have h3:=ahz p s.f0;simp only [plc,List.length_cons];omega
def join (out:List Sp) (x y:Int):List Sp :=
  match out.reverse with
  | []=>[⟨x,y - 1⟩]
  | z :: o=>if z.f1=x - 1 then o.reverse++[⟨z.f0,y - 1⟩] else out++[⟨x,y - 1⟩]
theorem join_nil (x y:Int):join [] x y=[⟨x,y - 1⟩]:=rfl
theorem ahA (o:List Sp) (z:Sp) (x y:Int):join (o++[z]) x y=if z.f1=x - 1 then o++[⟨z.f0,y - 1⟩] else o++[z]++[⟨x,y - 1⟩]:=by
  simp [join]
def ahB (q:Int→Bool):List Sp→List Int→List Sp
  | out,x :: y :: r=>ahB q (if q x then join out x y else out) (y :: r)
  | out,_=>out
theorem ait {lo hi:Int} {o:List Sp} {z:Sp}:SL lo hi (o++[z])↔SL lo hi o∧(∀ s∈o,s.f1+2≤z.f0)∧lo≤z.f0∧z.f0≤z.f1∧z.f1≤hi:=by
  induction o generalizing lo with
  | nil=>simp [SL]
  | cons t o ih =>
    simp only [List.cons_append,SL,ih,List.mem_cons];constructor
    · rintro ⟨h1,h2,h3,h4,h5,h6,h7,h8⟩
      exact ⟨⟨h1,h2,h3,h4⟩,fun s hs=>by rcases hs with rfl | hs;exact h6;exact h5 s hs,by omega,h7,h8⟩
    · rintro ⟨⟨h1,h2,h3,h4⟩,h5,h6,h7,h8⟩
      exact ⟨h1,h2,h3,h4,fun s hs=>h5 s (.inr hs),h5 t (.inl rfl),h7,h8⟩
theorem aiO {lo hi:Int} {out:List Sp} {x y:Int} (hs:SL lo hi out) (hb:∀ s∈out,s.f1≤x - 1) (hx:lo≤x) (hxy:x<y) (hy:y - 1≤hi) :
    SL lo hi (join out x y)∧(∀ s∈join out x y,s.f1≤y - 1)∧∀ t,vL (join out x y) t=(vL out t || (decide (x≤t)&&decide (t<y))):=by
  have hdec:∀ t:Int,decide (t≤y - 1)=decide (t<y):=fun t=>by
    by_cases h:t<y
    · have:t≤y - 1:=by omega
      simp [h,this]
    · have:¬ t≤y - 1:=by omega
      simp [h,this]
  rcases List.eq_nil_or_concat out with rfl | ⟨o,z,rfl⟩
  · rw [join_nil]
    refine ⟨⟨hx,by show x≤y - 1;omega,hy,trivial⟩,fun s h=>by simp at h;subst h;exact Int.le_refl _,fun t => ?_⟩;simp [vL,hdec]
  · rw [List.concat_eq_append] at *
    obtain ⟨h1,h2,h3,h4,h5⟩:=ait.1 hs;have hz:=hb z (by simp);rw [ahA];by_cases e:z.f1=x - 1
    · rw [if_pos e]
      refine ⟨ait.2 ⟨h1,h2,h3,by show z.f0≤y - 1;omega,hy⟩,fun s h => ?_,fun t => ?_⟩
      · simp at h
        rcases h with h | rfl
        · have:=hb s (by simp [h]);omega
        · exact Int.le_refl _
      · rw [agZ,agZ]
        simp only [kQ,ahu,Bool.or_false,hdec];rw [Bool.or_assoc];congr 1;by_cases c:t<x
        · have a1:t<y:=by omega
          have a2:t≤z.f1:=by omega
          have a3:¬ x≤t:=by omega
          simp [a1,a2,a3]
        · have a2:¬ t≤z.f1:=by omega
          have a3:x≤t:=by omega
          have a4:z.f0≤t:=by omega
          simp [a2,a3,a4]
    · rw [if_neg e]
      refine ⟨ait.2 ⟨hs,fun s h => ?_,hx,by show x≤y - 1;omega,hy⟩,fun s h => ?_,fun t => ?_⟩
      · simp at h
        rcases h with h | rfl
        · have:=h2 s h;show s.f1+2≤x;omega
        · show s.f1+2≤x;omega
      · simp at h
        rcases h with h | rfl | rfl
        · have:=hb s (by simp [h]);omega
        · have:=hb s (by simp);omega
        · exact Int.le_refl _
      · rw [agZ]
        simp only [kQ,ahu,Bool.or_false,hdec]
theorem aiE {lo hi:Int} (q:Int→Bool):∀ (p:List Int) (out:List Sp) (x:Int),Up (x :: p)→SL lo hi out→(∀ s∈out,s.f1≤x - 1)→lo≤x→(∀ z∈x :: p,z - 1≤hi) →
    (∀ t,t<x→vL out t=q t)→(∀ (u:Int),u∈x :: p→∀ t,u≤t→(∀ v,v∈x :: p→v≤u∨t<v)→q t=q u)→(∀ t,(∀ v∈x :: p,v≤t)→q t=false) →
    SL lo hi (ahB q out (x :: p))∧∀ t,vL (ahB q out (x :: p)) t=q t:=by
  intro p;induction p with
  | nil =>
    intro out x hu hs hb hx hh hq hc hz;refine ⟨hs,fun t => ?_⟩;by_cases h:t<x
    · exact hq t h
    · have:vL out t=false:=by
        rw [Bool.eq_false_iff];intro e;obtain ⟨s,h1,_,h2⟩:=vB.1 e;have:=hb s h1;omega
      show vL out t=q t;rw [this,hz t (fun v hv=>by simp at hv;omega)]
  | cons y r ih =>
    intro out x hu hs hb hx hh hq hc hz;obtain ⟨hu1,hu2⟩:=List.pairwise_cons.1 hu;have hxy:x<y:=hu1 y (by simp);have ab:=(List.pairwise_cons.1 hu2).1;have hseg:∀ t,x≤t→t<y→q t=q x:=fun t h1 h2=>hc x (by simp) t h1 (fun v hv=>by
      rcases List.mem_cons.1 hv with rfl | hv
      · exact .inl (Int.le_refl _)
      · rcases List.mem_cons.1 hv with rfl | hv
        · exact .inr h2
        · exact .inr (Int.lt_trans h2 (ab v hv)))
    show SL lo hi (ahB q (if q x then join out x y else out) (y :: r))∧∀ t,vL (ahB q (if q x then join out x y else out) (y :: r)) t=q t;have common:∀ out':List Sp,SL lo hi out'→(∀ s∈out',s.f1≤y - 1)→(∀ t,t<y→vL out' t=q t)→SL lo hi (ahB q out' (y :: r))∧∀ t,vL (ahB q out' (y :: r)) t=q t:=by
      intro out' a1 a2 a3;refine ih out' y hu2 a1 a2 (by omega) (fun z hz'=>hh z (by simp at hz' ⊢;exact .inr hz')) a3 (fun u hu' t h1 h2=>hc u (by simp at hu' ⊢;exact .inr hu') t h1 (fun v hv => ?_)) (fun t ht=>hz t (fun v hv => ?_))
      · rcases List.mem_cons.1 hv with rfl | hv
        · refine .inl ?_
          rcases List.mem_cons.1 hu' with rfl | hu'
          · omega
          · have:=ab u hu';omega
        · exact h2 v hv
      · rcases List.mem_cons.1 hv with rfl | hv
        · have:=ht y (by simp);omega
        · exact ht v hv
    by_cases aa:q x=true
    · rw [if_pos aa]
      obtain ⟨j1,j2,j3⟩:=aiO hs hb hx hxy (hh y (by simp));refine common _ j1 j2 (fun t ht => ?_);rw [j3];by_cases c:t<x
      · have:¬ x≤t:=by omega
        rw [hq t c];simp [this]
      · have:x≤t:=by omega
        rw [hseg t this ht,aa];simp [this,ht]
    · rw [if_neg aa]
      refine common _ hs (fun s h=>by have:=hb s h;omega) (fun t ht => ?_);by_cases c:t<x
      · exact hq t c
      · rw [hseg t (by omega) ht]
        have h1:q x=false:=by simpa using aa
        have h2:vL out t=false:=by
          rw [Bool.eq_false_iff];intro e;obtain ⟨s,h1,_,h2⟩:=vB.1 e;have:=hb s h1;omega
        rw [h1,h2]
theorem aif {a:List Sp} {u t:Int} (p:List Int) (hp:∀ s∈a,s.f0∈p∧s.f1+1∈p) (hut:u≤t) (h:∀ v∈p,v≤u∨t<v):vL a t=vL a u:=by
  induction a with
  | nil=>rfl
  | cons s a ih =>
    rw [kQ,kQ,ih (fun s' hs'=>hp s' (by simp [hs']))];obtain ⟨h1,h2⟩:=hp s (by simp);have e1:decide (s.f0≤t)=decide (s.f0≤u):=by
      rcases h _ h1 with h | h
      · have a:s.f0≤t:=by omega
        simp [h,a]
      · have a:¬ s.f0≤t:=by omega
        have b:¬ s.f0≤u:=by omega
        simp [a,b]
    have e2:decide (t≤s.f1)=decide (u≤s.f1):=by
      rcases h _ h2 with h | h
      · have a:¬ t≤s.f1:=by omega
        have b:¬ u≤s.f1:=by omega
        simp [a,b]
      · have a:t≤s.f1:=by omega
        have b:u≤s.f1:=by omega
        simp [a,b]
    rw [e1,e2]
theorem aiu (yes:Bool→Bool→Bool) (hy:yes false false=false) {lo hi:Int} {a b:List Sp} (ha:∀ s∈a,lo≤s.f0∧s.f0≤s.f1∧s.f1≤hi) (hb:∀ s∈b,lo≤s.f0∧s.f0≤s.f1∧s.f1≤hi) :
    SL lo hi (ahB (fun x=>yes (vL a x) (vL b x)) [] (plc b (plc a [])))∧∀ t,vL (ahB (fun x=>yes (vL a x) (vL b x)) [] (plc b (plc a []))) t=yes (vL a t) (vL b t):=by
  have hup:Up (plc b (plc a [])):=aiZ b (aiZ a List.Pairwise.nil);have hmem:∀ z,z∈plc b (plc a [])↔(∃ s∈a,z=s.f0∨z=s.f1+1)∨∃ s∈b,z=s.f0∨z=s.f1+1:=fun z=>by rw [ah8,ah8];simp
  have hpa:∀ s∈a,s.f0∈plc b (plc a [])∧s.f1+1∈plc b (plc a []):=fun s hs=>⟨(hmem _).2 (.inl ⟨s,hs,.inl rfl⟩),(hmem _).2 (.inl ⟨s,hs,.inr rfl⟩)⟩;have hpb:∀ s∈b,s.f0∈plc b (plc a [])∧s.f1+1∈plc b (plc a []):=fun s hs=>⟨(hmem _).2 (.inr ⟨s,hs,.inl rfl⟩),(hmem _).2 (.inr ⟨s,hs,.inr rfl⟩)⟩;have hout:∀ {a:List Sp} {p:List Int},(∀ s∈a,s.f0∈p∧s.f1+1∈p)→∀ t,((∀ v∈p,v≤t)∨∀ v∈p,t<v)→vL a t=false:=by
    intro a p h t ht;rw [Bool.eq_false_iff];intro e;obtain ⟨s,h1,h2,h3⟩:=vB.1 e;obtain ⟨h4,h5⟩:=h s h1;rcases ht with ht | ht
    · have:=ht _ h5;omega
    · have:=ht _ h4;omega
  have hrange:∀ z∈plc b (plc a []),lo≤z∧z - 1≤hi:=by
    intro z hz;rcases (hmem z).1 hz with ⟨s,hs,h⟩ | ⟨s,hs,h⟩
    · have:=ha s hs;rcases h with rfl | rfl <;> omega
    · have:=hb s hs;rcases h with rfl | rfl <;> omega
  cases hp:plc b (plc a []) with
  | nil =>
    have ea:∀ t,vL a t=false:=fun t=>hout hpa t (.inl (by rw [hp];simp));have eb:∀ t,vL b t=false:=fun t=>hout hpb t (.inl (by rw [hp];simp));refine ⟨trivial,fun t => ?_⟩;rw [ea,eb,hy];rfl
  | cons x p =>
    rw [hp] at hup hpa hpb hrange;refine aiE _ p [] x hup trivial (by simp) (hrange x (by simp)).1 (fun z hz=>(hrange z hz).2) (fun t ht => ?_) (fun u hu t h1 h2 => ?_) (fun t ht => ?_)
    · have hlt:∀ v∈x :: p,t<v:=fun v hv=>by
        rcases List.mem_cons.1 hv with rfl | hv
        · exact ht
        · exact Int.lt_trans ht ((List.pairwise_cons.1 hup).1 v hv)
      rw [hout hpa t (.inr hlt),hout hpb t (.inr hlt),hy];rfl
    · rw [aif _ hpa h1 h2,aif _ hpb h1 h2]
    · rw [hout hpa t (.inl ht),hout hpb t (.inl ht),hy]
end Go.Proofs.YtcomnjodjijcmaaGreat.P
namespace Go.Proofs.YtcomnjodjijcmaaGreat.P
set_option linter.unusedVariables false
set_option linter.unusedSimpArgs false
open Go.RowKit Go.ChangeShapes Go.WideShapes Go.Deep Go.Proofs.YtcomnjodjijcmaaGreatW.dz
def fits (n:Int):Prop:=(Lit.int .i64 n).wf=true
def qx (s:Sp):Prop:=fits s.f0∧fits s.f1
end Go.Proofs.YtcomnjodjijcmaaGreat.P
