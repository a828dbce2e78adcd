/- Lemmas for laws of chapter 7: what the functions that they reach compute. No condition of its own. -/
import Derived.Test.YtongeknogcboiaaGreatYT9
import Derived.Test.YtongeknogcboiaaGreatYT12
import Derived.Test.YtongeknogcboiaaGreatYT16
namespace Go.Proofs.YtongeknogcboiaaGreat.R
open M Go.RowKit Go.Proofs.YtongeknogcboiaaGreatW.gq Go.Proofs.YtongeknogcboiaaGreatW.iE Go.Proofs.YtongeknogcboiaaGreatW.iR
set_option linter.unusedVariables false
noncomputable def gY.m (k:Nat):Sm:=ko [.fm,(.int .i64)] [.pl (.sl 41 .sp),.pl (.int .i64)] (fun a=>gY.f k a.1.f0 a.1.f1 a.1.f2 a.1.f3 a.2.1)
noncomputable def gY.l0.p:PS:=⟨[nO,.one (.i .i64),.one (.bp 0 0)]++nOs 3++[.one (.i .i64)]++nOs 39,[.box 25 [.i .i64,.i .i64,.s (.sl 41 .sp),.s .gr]]⟩
noncomputable def gY.l0.c {γ:Type} (YK:HdK γ) (K:gJ→St→Option γ) (c1:Int) (c3:Int) (c4:Int) (c5:List (List P.S41)) (c6:List P.S43):=((fun y1=>K .ret ((⟨[nO,.one (.i .i64),.one (.bp 0 0),nO,.one (.s .sp),.one (.li .i64 0)]++nOs 40,[.box 25 [.i .i64,.i .i64,.s (.sl 41 .sp),.s .gr]]⟩:PS).mk' [.i c1,.l .sp y1,.i c3,.i c4,.l (.sl 41 .sp) c5,.l .gr c6])),(K (.exit 0) ((⟨[nO,.one (.i .i64),.one (.bp 0 0)]++nOs 43,[.box 25 [.i .i64,.i .i64,.s (.sl 41 .sp),.s .gr]]⟩:PS).mk' [.i c1,.i c3,.i c4,.l (.sl 41 .sp) c5,.l .gr c6])))
noncomputable def gY.l0.g {γ:Type} (YK:HdK γ) (k:Nat) (K:gJ→St→Option γ):List Lf→Option γ
  | [.i c1,.i v2,.i c3,.i c4,.l (.sl 41 .sp) c5,.l .gr c6]=>let q:=gY.l0.c YK K c1 c3 c4 c5 c6;gY.l0 q.1 q.2 c1 c6 k v2
  | _=>none
noncomputable def gY.C {γ:Type}:Ctx γ:=mkC (fun k=>mkE [(127,iY.m k)] []) [(90,Tryz.f90)] [(90,mkA [] [(0,[1,2,6])] [(0,[1,2,4,5])] [])] [⟨0,90,0,jN [(gY.l0.p,gY.l0.g)]⟩] []
theorem gY.l0.eq {γ:Type} (YK:HdK γ) (rl:Option Nat) (K:gJ→St→Option γ) (c1:Int) (c3:Int) (c4:Int) (c5:List (List P.S41)) (c6:List P.S43):∀ k:Nat,(fun (v2:Int)=>gY.C.lK 0 90 0 Tryz.f90 YK rl 1 k (gY.l0.p.mk' [.i c1,.i v2,.i c3,.i c4,.l (.sl 41 .sp) c5,.l .gr c6]) K)=(fun (v2:Int)=>gY.l0.g YK k K [.i c1,.i v2,.i c3,.i c4,.l (.sl 41 .sp) c5,.l .gr c6]):=iK (fun R k v2=>gY.l0T (gY.l0.c YK K c1 c3 c4 c5 c6).1 (gY.l0.c YK K c1 c3 c4 c5 c6).2 c1 c6 R k v2) (by kernel_rfl) (fun k=>by kernel_rfl) (fun k=>by kernel_rfl)
theorem gY.iN {γ:Type}:(gY.C (γ:=γ)).Ok:=⟨(all_cons (fun k=>by kernel_rfl) all_nil),(all_cons (by kernel_rfl) all_nil),all_nil⟩
theorem gY.e0 {γ:Type}:jE (gY.C (γ:=γ)) ⟨0,90,0,jN [(gY.l0.p,gY.l0.g)]⟩:=gY.iN.lS Tryz.f90 [] (by kernel_rfl) (by kernel_rfl) (by kernel_rfl) (all_cons jR all_nil) (all_cons (fun YK rl k ls K v hv=>(show gY.l0.g YK k K ls=some v→_ from fun hv=>by
  unfold gY.l0.g at hv;split at hv
  · exact (congrFun (gY.l0.eq YK rl K _ _ _ _ _ k) _).trans hv
  · cases hv) hv) all_nil)
theorem gY.ok (k:Nat):j5 Tryz.prog 90 (gY.m k).s:=okW gY.iN 0 Tryz.f90 k all_nil (fun k=>all_cons (iY.ok k) (all_nil)) (all_cons ⟨Tryz.func90,by kernel_rfl⟩ all_nil) (all_cons gY.e0 all_nil) (by kernel_rfl) (by kernel_rfl) (fun a=>by kernel_rfl)
noncomputable def gX.m (k:Nat):Sm:=ko [(.sl 41 .sp),(.int .i64)] [.own 41 .sp,.pl (.int .i64)] (fun a=>gX.f k a.1 a.2.1)
noncomputable def gX.l0.p:PS:=⟨[.one (.s .sp),.one (.i .i64)]++nOs 4++[.one (.o 41 .sp),.one (.i .i64)]++nOs 43,[]⟩
noncomputable def gX.l0.c {γ:Type} (YK:HdK γ) (K:gJ→St→Option γ)  := ((fun y1=>K .ret ((⟨nOs 4++[.one (.lo 41 .sp),.one (.li .i64 20),.one (.o 41 .sp)]++nOs 44,[]⟩:PS).mk' [.l .sp y1])),(fun y1=>K (.exit 0) ((⟨nOs 6++[.one (.o 41 .sp)]++nOs 44,[]⟩:PS).mk' [.l .sp y1])))
noncomputable def gX.l0.g {γ:Type} (YK:HdK γ) (k:Nat) (K:gJ→St→Option γ):List Lf→Option γ
  | [.l .sp c1,.i c2,.l .sp v3,.i v4]=>let q:=gX.l0.c YK K;gX.l0 q.1 q.2 c1 c2 k v3 v4
  | _=>none
noncomputable def gX.C {γ:Type}:Ctx γ:=mkC (fun k=>mkE [] []) [(91,Tryz.f91)] [(91,mkA [32,50] [(0,[0,1,6,7])] [(0,[4,5,6])] [])] [⟨0,91,0,jN [(gX.l0.p,gX.l0.g)]⟩] []
theorem gX.l0.eq {γ:Type} (YK:HdK γ) (rl:Option Nat) (K:gJ→St→Option γ) (c1:List P.S41) (c2:Int):∀ k:Nat,(fun (v3:List P.S41) (v4:Int)=>gX.C.lK 0 91 0 Tryz.f91 YK rl 0 k (gX.l0.p.mk' [.l .sp c1,.i c2,.l .sp v3,.i v4]) K)=(fun (v3:List P.S41) (v4:Int)=>gX.l0.g YK k K [.l .sp c1,.i c2,.l .sp v3,.i v4]):=iK (fun R k v3 v4=>gX.l0T (gX.l0.c YK K).1 (gX.l0.c YK K).2 c1 c2 R k v3 v4) (by kernel_rfl) (fun k=>by kernel_rfl) (fun k=>by kernel_rfl)
theorem gX.iN {γ:Type}:(gX.C (γ:=γ)).Ok:=⟨(all_cons (fun k=>by kernel_rfl) all_nil),(all_cons (by kernel_rfl) all_nil),all_nil⟩
theorem gX.e0 {γ:Type}:jE (gX.C (γ:=γ)) ⟨0,91,0,jN [(gX.l0.p,gX.l0.g)]⟩:=gX.iN.lS Tryz.f91 [] (by kernel_rfl) (by kernel_rfl) (by kernel_rfl) (all_cons jR all_nil) (all_cons (fun YK rl k ls K v hv=>(show gX.l0.g YK k K ls=some v→_ from fun hv=>by
  unfold gX.l0.g at hv;split at hv
  · exact (congrFun (congrFun (gX.l0.eq YK rl K _ _ k) _) _).trans hv
  · cases hv) hv) all_nil)
theorem gX.ok (k:Nat):j5 Tryz.prog 91 (gX.m k).s:=okW gX.iN 0 Tryz.f91 k all_nil (fun k=>all_nil) (all_cons ⟨Tryz.func91,by kernel_rfl⟩ all_nil) (all_cons gX.e0 all_nil) (by kernel_rfl) (by kernel_rfl) (fun a=>by kernel_rfl)
noncomputable def iP.m (k:Nat):Sm:=ko [.fm,(.int .i64)] [.own 41 .sp,.pl (.int .i64)] (fun a=>iP.f k a.1.f0 a.1.f1 a.1.f2 a.1.f3 a.2.1)
noncomputable def iP.C {γ:Type}:Ctx γ:=mkC (fun k=>mkE [(90,gY.m k),(91,gX.m k)] []) [(54,Tryz.f54)] [(54,mkA [50] [] [] [])] [] []
theorem iP.iN {γ:Type}:(iP.C (γ:=γ)).Ok:=⟨(all_cons (fun k=>by kernel_rfl) all_nil),(all_cons (by kernel_rfl) all_nil),all_nil⟩
theorem iP.ok (k:Nat):j5 Tryz.prog 54 (iP.m k).s:=okW iP.iN 0 Tryz.f54 k all_nil (fun k=>all_cons (gY.ok k) (all_cons (gX.ok k) (all_nil))) (all_cons ⟨Tryz.func54,by kernel_rfl⟩ all_nil) all_nil (by kernel_rfl) (by kernel_rfl) (fun a=>by kernel_rfl)
noncomputable def gH.m (k:Nat):Sm:=ko [(.sl 3 (.int .i64)),(.int .i64)] [.own 3 (.int .i64)] (fun a=>gH.f k a.1 a.2.1)
noncomputable def gH.l0.p:PS:=⟨[.one (.s (.int .i64)),.one (.i .i64)]++nOs 3++[.one (.o 3 (.int .i64)),.one (.b),.one (.i .i64)]++nOs 40,[]⟩
noncomputable def gH.l0.c {γ:Type} (YK:HdK γ) (K:gJ→St→Option γ) (c2:Int):=(fun y1 y2=>K (.exit 0) ((⟨[nO,.one (.i .i64)]++nOs 3++[.one (.o 3 (.int .i64)),.one (.b)]++nOs 41,[]⟩:PS).mk' [.i c2,.l (.int .i64) y1,.b y2]))
noncomputable def gH.l0.g {γ:Type} (YK:HdK γ) (k:Nat) (K:gJ→St→Option γ):List Lf→Option γ
  | [.l (.int .i64) c1,.i c2,.l (.int .i64) v3,.b v4,.i v5]=>gH.l0 (gH.l0.c YK K c2) c1 c2 k v3 v4 v5
  | _=>none
noncomputable def gH.C {γ:Type}:Ctx γ:=mkC (fun k=>mkE [] []) [(130,Tryz.f130)] [(130,mkA [30,34,43,47] [(0,[0,1,5,6,7])] [(0,[1,5,6])] [])] [⟨0,130,0,jN [(gH.l0.p,gH.l0.g)]⟩] []
theorem gH.l0.eq {γ:Type} (YK:HdK γ) (rl:Option Nat) (K:gJ→St→Option γ) (c1:List Int) (c2:Int):∀ k:Nat,(fun (v3:List Int) (v4:Bool) (v5:Int)=>gH.C.lK 0 130 0 Tryz.f130 YK rl 0 k (gH.l0.p.mk' [.l (.int .i64) c1,.i c2,.l (.int .i64) v3,.b v4,.i v5]) K)=(fun (v3:List Int) (v4:Bool) (v5:Int)=>gH.l0.g YK k K [.l (.int .i64) c1,.i c2,.l (.int .i64) v3,.b v4,.i v5]):=iK (fun R k v3 v4 v5=>gH.l0T (gH.l0.c YK K c2) c1 c2 R k v3 v4 v5) (by kernel_rfl) (fun k=>by kernel_rfl) (fun k=>by kernel_rfl)
theorem gH.iN {γ:Type}:(gH.C (γ:=γ)).Ok:=⟨(all_cons (fun k=>by kernel_rfl) all_nil),(all_cons (by kernel_rfl) all_nil),all_nil⟩
theorem gH.e0 {γ:Type}:jE (gH.C (γ:=γ)) ⟨0,130,0,jN [(gH.l0.p,gH.l0.g)]⟩:=gH.iN.lS Tryz.f130 [] (by kernel_rfl) (by kernel_rfl) (by kernel_rfl) (all_cons jR all_nil) (all_cons (fun YK rl k ls K v hv=>(show gH.l0.g YK k K ls=some v→_ from fun hv=>by
  unfold gH.l0.g at hv;split at hv
  · exact (congrFun (congrFun (congrFun (gH.l0.eq YK rl K _ _ k) _) _) _).trans hv
  · cases hv) hv) all_nil)
theorem gH.ok (k:Nat):j5 Tryz.prog 130 (gH.m k).s:=okW gH.iN 0 Tryz.f130 k all_nil (fun k=>all_nil) (all_cons ⟨Tryz.func130,by kernel_rfl⟩ all_nil) (all_cons gH.e0 all_nil) (by kernel_rfl) (by kernel_rfl) (fun a=>by kernel_rfl)
noncomputable def fU.m (k:Nat):Sm:=ko [(.sl 41 .sp),(.sl 41 .sp)] [.own 3 (.int .i64)] (fun a=>fU.f k a.1 a.2.1)
noncomputable def fU.l0.p:PS:=⟨[.one (.s .sp),.one (.s .sp)]++nOs 3++[.one (.o 3 (.int .i64)),.one (.i .i64)]++nOs 42,[]⟩
noncomputable def fU.l0.c {γ:Type} (YK:HdK γ) (K:gJ→St→Option γ) (c2:List P.S41):=(fun y1=>K (.exit 0) ((⟨[nO,.one (.s .sp)]++nOs 3++[.one (.o 3 (.int .i64))]++nOs 43,[]⟩:PS).mk' [.l .sp c2,.l (.int .i64) y1]))
noncomputable def fU.l0.g {γ:Type} (YK:HdK γ) (k:Nat) (K:gJ→St→Option γ):List Lf→Option γ
  | [.l .sp c1,.l .sp c2,.l (.int .i64) v3,.i v4]=>fU.l0 (fU.l0.c YK K c2) c1 k v3 v4
  | _=>none
noncomputable def fU.l1.p:PS:=⟨[nO,.one (.s .sp)]++nOs 3++[.one (.o 3 (.int .i64)),nO,.one (.i .i64)]++nOs 41,[]⟩
noncomputable def fU.l1.c {γ:Type} (YK:HdK γ) (K:gJ→St→Option γ)  := (fun y1=>K (.exit 2) ((⟨nOs 5++[.one (.o 3 (.int .i64))]++nOs 43,[]⟩:PS).mk' [.l (.int .i64) y1]))
noncomputable def fU.l1.g {γ:Type} (YK:HdK γ) (k:Nat) (K:gJ→St→Option γ):List Lf→Option γ
  | [.l .sp c1,.l (.int .i64) v2,.i v3]=>fU.l1 (fU.l1.c YK K) c1 k v2 v3
  | _=>none
noncomputable def fU.C {γ:Type}:Ctx γ:=mkC (fun k=>mkE [(130,gH.m k)] []) [(93,Tryz.f93)] [(93,mkA [48] [(0,[0,1,5,6]),(2,[1,5,7])] [(0,[1,5]),(2,[5])] [])] [⟨0,93,0,jN [(fU.l0.p,fU.l0.g)]⟩,⟨0,93,2,jN [(fU.l1.p,fU.l1.g)]⟩] []
theorem fU.l0.eq {γ:Type} (YK:HdK γ) (rl:Option Nat) (K:gJ→St→Option γ) (c1:List P.S41) (c2:List P.S41):∀ k:Nat,(fun (v3:List Int) (v4:Int)=>fU.C.lK 0 93 0 Tryz.f93 YK rl 0 k (fU.l0.p.mk' [.l .sp c1,.l .sp c2,.l (.int .i64) v3,.i v4]) K)=(fun (v3:List Int) (v4:Int)=>fU.l0.g YK k K [.l .sp c1,.l .sp c2,.l (.int .i64) v3,.i v4]):=iK (fun R k v3 v4=>fU.l0T (fU.l0.c YK K c2) c1 R k v3 v4) (by kernel_rfl) (fun k=>by kernel_rfl) (fun k=>by kernel_rfl)
theorem fU.l1.eq {γ:Type} (YK:HdK γ) (rl:Option Nat) (K:gJ→St→Option γ) (c1:List P.S41):∀ k:Nat,(fun (v2:List Int) (v3:Int)=>fU.C.lK 0 93 2 Tryz.f93 YK rl 0 k (fU.l1.p.mk' [.l .sp c1,.l (.int .i64) v2,.i v3]) K)=(fun (v2:List Int) (v3:Int)=>fU.l1.g YK k K [.l .sp c1,.l (.int .i64) v2,.i v3]):=iK (fun R k v2 v3=>fU.l1T (fU.l1.c YK K) c1 R k v2 v3) (by kernel_rfl) (fun k=>by kernel_rfl) (fun k=>by kernel_rfl)
theorem fU.iN {γ:Type}:(fU.C (γ:=γ)).Ok:=⟨(all_cons (fun k=>by kernel_rfl) all_nil),(all_cons (by kernel_rfl) all_nil),all_nil⟩
theorem fU.e0 {γ:Type}:jE (fU.C (γ:=γ)) ⟨0,93,0,jN [(fU.l0.p,fU.l0.g)]⟩:=fU.iN.lS Tryz.f93 [] (by kernel_rfl) (by kernel_rfl) (by kernel_rfl) (all_cons jR (all_cons jR all_nil)) (all_cons (fun YK rl k ls K v hv=>(show fU.l0.g YK k K ls=some v→_ from fun hv=>by
  unfold fU.l0.g at hv;split at hv
  · exact (congrFun (congrFun (fU.l0.eq YK rl K _ _ k) _) _).trans hv
  · cases hv) hv) all_nil)
theorem fU.e1 {γ:Type}:jE (fU.C (γ:=γ)) ⟨0,93,2,jN [(fU.l1.p,fU.l1.g)]⟩:=fU.iN.lS Tryz.f93 [] (by kernel_rfl) (by kernel_rfl) (by kernel_rfl) (all_cons jR (all_cons jR all_nil)) (all_cons (fun YK rl k ls K v hv=>(show fU.l1.g YK k K ls=some v→_ from fun hv=>by
  unfold fU.l1.g at hv;split at hv
  · exact (congrFun (congrFun (fU.l1.eq YK rl K _ k) _) _).trans hv
  · cases hv) hv) all_nil)
theorem fU.ok (k:Nat):j5 Tryz.prog 93 (fU.m k).s:=okW fU.iN 0 Tryz.f93 k all_nil (fun k=>all_cons (gH.ok k) (all_nil)) (all_cons ⟨Tryz.func93,by kernel_rfl⟩ all_nil) (all_cons fU.e0 (all_cons fU.e1 all_nil)) (by kernel_rfl) (by kernel_rfl) (fun a=>by kernel_rfl)
noncomputable def jQ.m (k:Nat):Sm:=ko [(.int .i64),.bool,.bool] [.pl .bool] (fun a=>jQ.f k a.1 a.2.1 a.2.2.1)
noncomputable def jQ.C {γ:Type}:Ctx γ:=mkC (fun k=>mkE [] []) [(94,Tryz.f94)] [(94,mkA [] [] [] [])] [] []
theorem jQ.iN {γ:Type}:(jQ.C (γ:=γ)).Ok:=⟨(all_cons (fun k=>by kernel_rfl) all_nil),(all_cons (by kernel_rfl) all_nil),all_nil⟩
theorem jQ.ok (k:Nat):j5 Tryz.prog 94 (jQ.m k).s:=okW jQ.iN 0 Tryz.f94 k all_nil (fun k=>all_nil) (all_cons ⟨Tryz.func94,by kernel_rfl⟩ all_nil) all_nil (by kernel_rfl) (by kernel_rfl) (fun a=>by kernel_rfl)
noncomputable def iy.m (k:Nat):Sm:=ko [(.sl 41 .sp),(.int .i64)] [.pl .bool] (fun a=>iy.f k a.1 a.2.1)
noncomputable def iy.l0.p:PS:=⟨[.one (.s .sp),.one (.i .i64)]++nOs 3++[.one (.i .i64)]++nOs 22,[]⟩
noncomputable def iy.l0.c {γ:Type} (YK:HdK γ) (K:gJ→St→Option γ)  := ((K .ret ((⟨nOs 4++[.one (.lb true)]++nOs 23,[]⟩:PS).mk' [])),(K (.exit 0) ((⟨nOs 28,[]⟩:PS).mk' [])))
noncomputable def iy.l0.g {γ:Type} (YK:HdK γ) (k:Nat) (K:gJ→St→Option γ):List Lf→Option γ
  | [.l .sp c1,.i c2,.i v3]=>let q:=iy.l0.c YK K;iy.l0 q.1 q.2 c1 c2 k v3
  | _=>none
noncomputable def iy.C {γ:Type}:Ctx γ:=mkC (fun k=>mkE [] []) [(95,Tryz.f95)] [(95,mkA [] [(0,[0,1,5])] [(0,[4])] [])] [⟨0,95,0,jN [(iy.l0.p,iy.l0.g)]⟩] []
theorem iy.l0.eq {γ:Type} (YK:HdK γ) (rl:Option Nat) (K:gJ→St→Option γ) (c1:List P.S41) (c2:Int):∀ k:Nat,(fun (v3:Int)=>iy.C.lK 0 95 0 Tryz.f95 YK rl 0 k (iy.l0.p.mk' [.l .sp c1,.i c2,.i v3]) K)=(fun (v3:Int)=>iy.l0.g YK k K [.l .sp c1,.i c2,.i v3]):=iK (fun R k v3=>iy.l0T (iy.l0.c YK K).1 (iy.l0.c YK K).2 c1 c2 R k v3) (by kernel_rfl) (fun k=>by kernel_rfl) (fun k=>by kernel_rfl)
theorem iy.iN {γ:Type}:(iy.C (γ:=γ)).Ok:=⟨(all_cons (fun k=>by kernel_rfl) all_nil),(all_cons (by kernel_rfl) all_nil),all_nil⟩
theorem iy.e0 {γ:Type}:jE (iy.C (γ:=γ)) ⟨0,95,0,jN [(iy.l0.p,iy.l0.g)]⟩:=iy.iN.lS Tryz.f95 [] (by kernel_rfl) (by kernel_rfl) (by kernel_rfl) (all_cons jR all_nil) (all_cons (fun YK rl k ls K v hv=>(show iy.l0.g YK k K ls=some v→_ from fun hv=>by
  unfold iy.l0.g at hv;split at hv
  · exact (congrFun (iy.l0.eq YK rl K _ _ k) _).trans hv
  · cases hv) hv) all_nil)
theorem iy.ok (k:Nat):j5 Tryz.prog 95 (iy.m k).s:=okW iy.iN 0 Tryz.f95 k all_nil (fun k=>all_nil) (all_cons ⟨Tryz.func95,by kernel_rfl⟩ all_nil) (all_cons iy.e0 all_nil) (by kernel_rfl) (by kernel_rfl) (fun a=>by kernel_rfl)
noncomputable def gN.m (k:Nat):Sm:=ko [(.int .i64),(.sl 41 .sp),(.sl 41 .sp)] [.own 41 .sp] (fun a=>gN.f k a.1 a.2.1 a.2.2.1)
noncomputable def gN.l0.p:PS:=⟨[.one (.i .i64),.one (.s .sp),.one (.s .sp)]++nOs 4++[.one (.o 3 (.int .i64)),.one (.mu 41 .sp),.one (.i .i64)]++nOs 70,[]⟩
noncomputable def gN.l0.c {γ:Type} (YK:HdK γ) (K:gJ→St→Option γ)  := (fun y1=>K (.exit 0) ((⟨nOs 8++[.one (.mu 41 .sp)]++nOs 71,[]⟩:PS).mk' [.l .sp y1]))
noncomputable def gN.l0.g {γ:Type} (YK:HdK γ) (k:Nat) (K:gJ→St→Option γ):List Lf→Option γ
  | [.i c1,.l .sp c2,.l .sp c3,.l (.int .i64) c4,.l .sp v5,.i v6]=>gN.l0 (gN.l0.c YK K) c1 c2 c3 c4 k v5 v6
  | _=>none
noncomputable def gN.C {γ:Type}:Ctx γ:=mkC (fun k=>mkE [(93,fU.m k),(94,jQ.m k),(95,iy.m k)] []) [(57,Tryz.f57)] [(57,mkA [65,79] [(0,[0,1,2,7,8,9])] [(0,[8])] [(3,[.mu (.tm 8)],[]),(7,[.op (.tm 8)],[.cl (.tm 8)]),(8,[.op (.tm 8)],[.cl (.tm 8)]),(10,[.fz (.tm 8)],[])])] [⟨0,57,0,jN [(gN.l0.p,gN.l0.g)]⟩] []
theorem gN.l0.eq {γ:Type} (YK:HdK γ) (rl:Option Nat) (K:gJ→St→Option γ) (c1:Int) (c2:List P.S41) (c3:List P.S41) (c4:List Int):∀ k:Nat,(fun (v5:List P.S41) (v6:Int)=>gN.C.lK 0 57 0 Tryz.f57 YK rl 0 k (gN.l0.p.mk' [.i c1,.l .sp c2,.l .sp c3,.l (.int .i64) c4,.l .sp v5,.i v6]) K)=(fun (v5:List P.S41) (v6:Int)=>gN.l0.g YK k K [.i c1,.l .sp c2,.l .sp c3,.l (.int .i64) c4,.l .sp v5,.i v6]):=iK (fun R k v5 v6=>gN.l0T (gN.l0.c YK K) c1 c2 c3 c4 R k v5 v6) (by kernel_rfl) (fun k=>by kernel_rfl) (fun k=>by kernel_rfl)
theorem gN.iN {γ:Type}:(gN.C (γ:=γ)).Ok:=⟨(all_cons (fun k=>by kernel_rfl) all_nil),(all_cons (by kernel_rfl) all_nil),all_nil⟩
theorem gN.e0 {γ:Type}:jE (gN.C (γ:=γ)) ⟨0,57,0,jN [(gN.l0.p,gN.l0.g)]⟩:=gN.iN.lS Tryz.f57 [] (by kernel_rfl) (by kernel_rfl) (by kernel_rfl) (all_cons jR all_nil) (all_cons (fun YK rl k ls K v hv=>(show gN.l0.g YK k K ls=some v→_ from fun hv=>by
  unfold gN.l0.g at hv;split at hv
  · exact (congrFun (congrFun (gN.l0.eq YK rl K _ _ _ _ k) _) _).trans hv
  · cases hv) hv) all_nil)
theorem gN.ok (k:Nat):j5 Tryz.prog 57 (gN.m k).s:=okW gN.iN 0 Tryz.f57 k all_nil (fun k=>all_cons (fU.ok k) (all_cons (jQ.ok k) (all_cons (iy.ok k) (all_nil)))) (all_cons ⟨Tryz.func57,by kernel_rfl⟩ all_nil) (all_cons gN.e0 all_nil) (by kernel_rfl) (by kernel_rfl) (fun a=>by kernel_rfl)
noncomputable def jA.m (k:Nat):Sm:=ko [.fm,(.int .i64),.sp] [.pl .bool] (fun a=>jA.f k a.1.f0 a.1.f1 a.1.f2 a.1.f3 a.2.1 a.2.2.1.f0 a.2.2.1.f1)
noncomputable def jA.C {γ:Type}:Ctx γ:=mkC (fun k=>mkE [(54,iP.m k),(57,gN.m k)] []) [(128,Tryz.f128)] [(128,mkA [] [] [] [])] [] []
theorem jA.iN {γ:Type}:(jA.C (γ:=γ)).Ok:=⟨(all_cons (fun k=>by kernel_rfl) all_nil),(all_cons (by kernel_rfl) all_nil),all_nil⟩
theorem jA.ok (k:Nat):j5 Tryz.prog 128 (jA.m k).s:=okW jA.iN 0 Tryz.f128 k all_nil (fun k=>all_cons (iP.ok k) (all_cons (gN.ok k) (all_nil))) (all_cons ⟨Tryz.func128,by kernel_rfl⟩ all_nil) all_nil (by kernel_rfl) (by kernel_rfl) (fun a=>by kernel_rfl)
noncomputable def gW.m (k:Nat):Sm:=ko [(.sl 3 (.int .i64)),(.int .i64)] [.own 3 (.int .i64)] (fun a=>gW.f k a.1 a.2.1)
noncomputable def gW.l0.p:PS:=⟨[.one (.s (.int .i64)),.one (.i .i64)]++nOs 3++[.one (.o 3 (.int .i64)),.one (.b),.one (.i .i64)]++nOs 40,[]⟩
noncomputable def gW.l0.c {γ:Type} (YK:HdK γ) (K:gJ→St→Option γ) (c2:Int):=(fun y1 y2=>K (.exit 0) ((⟨[nO,.one (.i .i64)]++nOs 3++[.one (.o 3 (.int .i64)),.one (.b)]++nOs 41,[]⟩:PS).mk' [.i c2,.l (.int .i64) y1,.b y2]))
noncomputable def gW.l0.g {γ:Type} (YK:HdK γ) (k:Nat) (K:gJ→St→Option γ):List Lf→Option γ
  | [.l (.int .i64) c1,.i c2,.l (.int .i64) v3,.b v4,.i v5]=>gW.l0 (gW.l0.c YK K c2) c1 c2 k v3 v4 v5
  | _=>none
noncomputable def gW.C {γ:Type}:Ctx γ:=mkC (fun k=>mkE [] []) [(129,Tryz.f129)] [(129,mkA [30,34,43,47] [(0,[0,1,5,6,7])] [(0,[1,5,6])] [])] [⟨0,129,0,jN [(gW.l0.p,gW.l0.g)]⟩] []
theorem gW.l0.eq {γ:Type} (YK:HdK γ) (rl:Option Nat) (K:gJ→St→Option γ) (c1:List Int) (c2:Int):∀ k:Nat,(fun (v3:List Int) (v4:Bool) (v5:Int)=>gW.C.lK 0 129 0 Tryz.f129 YK rl 0 k (gW.l0.p.mk' [.l (.int .i64) c1,.i c2,.l (.int .i64) v3,.b v4,.i v5]) K)=(fun (v3:List Int) (v4:Bool) (v5:Int)=>gW.l0.g YK k K [.l (.int .i64) c1,.i c2,.l (.int .i64) v3,.b v4,.i v5]):=iK (fun R k v3 v4 v5=>gW.l0T (gW.l0.c YK K c2) c1 c2 R k v3 v4 v5) (by kernel_rfl) (fun k=>by kernel_rfl) (fun k=>by kernel_rfl)
theorem gW.iN {γ:Type}:(gW.C (γ:=γ)).Ok:=⟨(all_cons (fun k=>by kernel_rfl) all_nil),(all_cons (by kernel_rfl) all_nil),all_nil⟩
theorem gW.e0 {γ:Type}:jE (gW.C (γ:=γ)) ⟨0,129,0,jN [(gW.l0.p,gW.l0.g)]⟩:=gW.iN.lS Tryz.f129 [] (by kernel_rfl) (by kernel_rfl) (by kernel_rfl) (all_cons jR all_nil) (all_cons (fun YK rl k ls K v hv=>(show gW.l0.g YK k K ls=some v→_ from fun hv=>by
  unfold gW.l0.g at hv;split at hv
  · exact (congrFun (congrFun (congrFun (gW.l0.eq YK rl K _ _ k) _) _) _).trans hv
  · cases hv) hv) all_nil)
theorem gW.ok (k:Nat):j5 Tryz.prog 129 (gW.m k).s:=okW gW.iN 0 Tryz.f129 k all_nil (fun k=>all_nil) (all_cons ⟨Tryz.func129,by kernel_rfl⟩ all_nil) (all_cons gW.e0 all_nil) (by kernel_rfl) (by kernel_rfl) (fun a=>by kernel_rfl)
noncomputable def fI.m (k:Nat):Sm:=ko [.fm,.sp] [.own 3 (.int .i64)] (fun a=>fI.f k a.1.f0 a.1.f1 a.1.f2 a.1.f3 a.2.1.f0 a.2.1.f1)
noncomputable def fI.l1.p:PS:=⟨[nO,nO,.one (.bp 0 0),.one (.bp 1 0),nO,.one (.o 3 (.int .i64)),.one (.i .i64)]++nOs 3++[.one (.i .i64),nO,.one (.i .i64)]++nOs 93,[.box 25 [.i .i64,.i .i64,.s (.sl 41 .sp),.s .gr],.box 41 [.i .i64,.i .i64]]⟩
noncomputable def fI.l1.c {γ:Type} (YK:HdK γ) (K:gJ→St→Option γ) (c2:Int) (c5:Int) (c6:Int) (c7:List (List P.S41)) (c8:List P.S43) (c9:Int) (c10:Int):=(fun y1=>K (.exit 2) ((⟨[nO,nO,.one (.bp 0 0),.one (.bp 1 0),nO,.one (.o 3 (.int .i64)),.one (.i .i64)]++nOs 99,[.box 25 [.i .i64,.i .i64,.s (.sl 41 .sp),.s .gr],.box 41 [.i .i64,.i .i64]]⟩:PS).mk' [.l (.int .i64) y1,.i c2,.i c5,.i c6,.l (.sl 41 .sp) c7,.l .gr c8,.i c9,.i c10]))
noncomputable def fI.l1.g {γ:Type} (YK:HdK γ) (k:Nat) (K:gJ→St→Option γ):List Lf→Option γ
  | [.l (.int .i64) v1,.i c2,.i c3,.i v4,.i c5,.i c6,.l (.sl 41 .sp) c7,.l .gr c8,.i c9,.i c10]=>fI.l1 (fI.l1.c YK K c2 c5 c6 c7 c8 c9 c10) c2 c3 c5 c6 c7 c8 c9 c10 k v1 v4
  | _=>none
noncomputable def fI.l0.p:PS:=⟨[nO,nO,.one (.bp 0 0),.one (.bp 1 0),nO,.one (.o 3 (.int .i64)),.one (.i .i64)]++nOs 99,[.box 25 [.i .i64,.i .i64,.s (.sl 41 .sp),.s .gr],.box 41 [.i .i64,.i .i64]]⟩
noncomputable def fI.l0.c {γ:Type} (YK:HdK γ) (K:gJ→St→Option γ) (c3:Int) (c4:Int) (c5:List (List P.S41)) (c6:List P.S43) (c7:Int) (c8:Int):=(fun y1=>K (.exit 0) ((⟨[nO,nO,.one (.bp 0 0),.one (.bp 1 0),nO,.one (.o 3 (.int .i64))]++nOs 100,[.box 25 [.i .i64,.i .i64,.s (.sl 41 .sp),.s .gr],.box 41 [.i .i64,.i .i64]]⟩:PS).mk' [.l (.int .i64) y1,.i c3,.i c4,.l (.sl 41 .sp) c5,.l .gr c6,.i c7,.i c8]))
noncomputable def fI.l0.g {γ:Type} (YK:HdK γ) (k:Nat) (K:gJ→St→Option γ):List Lf→Option γ
  | [.l (.int .i64) v1,.i v2,.i c3,.i c4,.l (.sl 41 .sp) c5,.l .gr c6,.i c7,.i c8]=>fI.l0 (fI.l0.c YK K c3 c4 c5 c6 c7 c8) c3 c4 c5 c6 c7 c8 k v1 v2
  | _=>none
noncomputable def fI.l2.p:PS:=⟨[nO,nO,.one (.bp 0 0),.one (.bp 1 0),nO,.one (.o 3 (.int .i64))]++nOs 7++[.one (.i .i64)]++nOs 92,[.box 25 [.i .i64,.i .i64,.s (.sl 41 .sp),.s .gr],.box 41 [.i .i64,.i .i64]]⟩
noncomputable def fI.l2.c {γ:Type} (YK:HdK γ) (K:gJ→St→Option γ) (c3:Int) (c4:Int) (c5:List (List P.S41)) (c6:List P.S43) (c7:Int) (c8:Int):=(fun y1=>K (.exit 4) ((⟨nOs 5++[.one (.o 3 (.int .i64))]++nOs 100,[.box 25 [.i .i64,.i .i64,.s (.sl 41 .sp),.s .gr],.box 41 [.i .i64,.i .i64]]⟩:PS).mk' [.l (.int .i64) y1,.i c3,.i c4,.l (.sl 41 .sp) c5,.l .gr c6,.i c7,.i c8]))
noncomputable def fI.l2.g {γ:Type} (YK:HdK γ) (k:Nat) (K:gJ→St→Option γ):List Lf→Option γ
  | [.l (.int .i64) v1,.i v2,.i c3,.i c4,.l (.sl 41 .sp) c5,.l .gr c6,.i c7,.i c8]=>fI.l2 (fI.l2.c YK K c3 c4 c5 c6 c7 c8) c3 c4 c5 c6 c7 c8 k v1 v2
  | _=>none
noncomputable def fI.C {γ:Type}:Ctx γ:=mkC (fun k=>mkE [(127,iY.m k),(128,jA.m k),(129,gW.m k)] []) [(92,Tryz.f92)] [(92,mkA [105] [(0,[2,3,5,6]),(2,[2,3,5,6,10,12]),(4,[2,3,5,13])] [(0,[2,3,5]),(2,[2,3,5,6]),(4,[5])] [])] [⟨0,92,2,jN [(fI.l1.p,fI.l1.g)]⟩,⟨0,92,0,jN [(fI.l0.p,fI.l0.g)]⟩,⟨0,92,4,jN [(fI.l2.p,fI.l2.g)]⟩] []
theorem fI.l1.eq {γ:Type} (YK:HdK γ) (rl:Option Nat) (K:gJ→St→Option γ) (c2:Int) (c3:Int) (c5:Int) (c6:Int) (c7:List (List P.S41)) (c8:List P.S43) (c9:Int) (c10:Int):∀ k:Nat,(fun (v1:List Int) (v4:Int)=>fI.C.lK 0 92 2 Tryz.f92 YK rl 2 k (fI.l1.p.mk' [.l (.int .i64) v1,.i c2,.i c3,.i v4,.i c5,.i c6,.l (.sl 41 .sp) c7,.l .gr c8,.i c9,.i c10]) K)=(fun (v1:List Int) (v4:Int)=>fI.l1.g YK k K [.l (.int .i64) v1,.i c2,.i c3,.i v4,.i c5,.i c6,.l (.sl 41 .sp) c7,.l .gr c8,.i c9,.i c10]):=iK (fun R k v1 v4=>fI.l1T (fI.l1.c YK K c2 c5 c6 c7 c8 c9 c10) c2 c3 c5 c6 c7 c8 c9 c10 R k v1 v4) (by kernel_rfl) (fun k=>by kernel_rfl) (fun k=>by kernel_rfl)
theorem fI.l0.eq {γ:Type} (YK:HdK γ) (rl:Option Nat) (K:gJ→St→Option γ) (c3:Int) (c4:Int) (c5:List (List P.S41)) (c6:List P.S43) (c7:Int) (c8:Int):∀ k:Nat,(fun (v1:List Int) (v2:Int)=>fI.C.lK 0 92 0 Tryz.f92 YK rl 2 k (fI.l0.p.mk' [.l (.int .i64) v1,.i v2,.i c3,.i c4,.l (.sl 41 .sp) c5,.l .gr c6,.i c7,.i c8]) K)=(fun (v1:List Int) (v2:Int)=>fI.l0.g YK k K [.l (.int .i64) v1,.i v2,.i c3,.i c4,.l (.sl 41 .sp) c5,.l .gr c6,.i c7,.i c8]):=iK (fun R k v1 v2=>fI.l0T (fI.l0.c YK K c3 c4 c5 c6 c7 c8) c3 c4 c5 c6 c7 c8 R k v1 v2) (by kernel_rfl) (fun k=>by kernel_rfl) (fun k=>by kernel_rfl)
theorem fI.l2.eq {γ:Type} (YK:HdK γ) (rl:Option Nat) (K:gJ→St→Option γ) (c3:Int) (c4:Int) (c5:List (List P.S41)) (c6:List P.S43) (c7:Int) (c8:Int):∀ k:Nat,(fun (v1:List Int) (v2:Int)=>fI.C.lK 0 92 4 Tryz.f92 YK rl 2 k (fI.l2.p.mk' [.l (.int .i64) v1,.i v2,.i c3,.i c4,.l (.sl 41 .sp) c5,.l .gr c6,.i c7,.i c8]) K)=(fun (v1:List Int) (v2:Int)=>fI.l2.g YK k K [.l (.int .i64) v1,.i v2,.i c3,.i c4,.l (.sl 41 .sp) c5,.l .gr c6,.i c7,.i c8]):=iK (fun R k v1 v2=>fI.l2T (fI.l2.c YK K c3 c4 c5 c6 c7 c8) c3 c4 c5 c6 c7 c8 R k v1 v2) (by kernel_rfl) (fun k=>by kernel_rfl) (fun k=>by kernel_rfl)
theorem fI.iN {γ:Type}:(fI.C (γ:=γ)).Ok:=⟨(all_cons (fun k=>by kernel_rfl) all_nil),(all_cons (by kernel_rfl) all_nil),all_nil⟩
theorem fI.e0 {γ:Type}:jE (fI.C (γ:=γ)) ⟨0,92,2,jN [(fI.l1.p,fI.l1.g)]⟩:=fI.iN.lS Tryz.f92 [] (by kernel_rfl) (by kernel_rfl) (by kernel_rfl) (all_cons jR (all_cons jR (all_cons jR all_nil))) (all_cons (fun YK rl k ls K v hv=>(show fI.l1.g YK k K ls=some v→_ from fun hv=>by
  unfold fI.l1.g at hv;split at hv
  · exact (congrFun (congrFun (fI.l1.eq YK rl K _ _ _ _ _ _ _ _ k) _) _).trans hv
  · cases hv) hv) all_nil)
theorem fI.e1 {γ:Type}:jE (fI.C (γ:=γ)) ⟨0,92,0,jN [(fI.l0.p,fI.l0.g)]⟩:=fI.iN.lS Tryz.f92 [2] (by kernel_rfl) (by kernel_rfl) (by kernel_rfl) (all_cons (fun _=>fI.e0) (all_cons jR (all_cons jR all_nil))) (all_cons (fun YK rl k ls K v hv=>(show fI.l0.g YK k K ls=some v→_ from fun hv=>by
  unfold fI.l0.g at hv;split at hv
  · exact (congrFun (congrFun (fI.l0.eq YK rl K _ _ _ _ _ _ k) _) _).trans hv
  · cases hv) hv) all_nil)
theorem fI.e2 {γ:Type}:jE (fI.C (γ:=γ)) ⟨0,92,4,jN [(fI.l2.p,fI.l2.g)]⟩:=fI.iN.lS Tryz.f92 [] (by kernel_rfl) (by kernel_rfl) (by kernel_rfl) (all_cons jR (all_cons jR (all_cons jR all_nil))) (all_cons (fun YK rl k ls K v hv=>(show fI.l2.g YK k K ls=some v→_ from fun hv=>by
  unfold fI.l2.g at hv;split at hv
  · exact (congrFun (congrFun (fI.l2.eq YK rl K _ _ _ _ _ _ k) _) _).trans hv
  · cases hv) hv) all_nil)
theorem fI.ok (k:Nat):j5 Tryz.prog 92 (fI.m k).s:=okW fI.iN 0 Tryz.f92 k all_nil (fun k=>all_cons (iY.ok k) (all_cons (jA.ok k) (all_cons (gW.ok k) (all_nil)))) (all_cons ⟨Tryz.func92,by kernel_rfl⟩ all_nil) (all_cons fI.e0 (all_cons fI.e1 (all_cons fI.e2 all_nil))) (by kernel_rfl) (by kernel_rfl) (fun a=>by kernel_rfl)
noncomputable def jk.m (k:Nat):Sm:=ko [.fm,(.sl 41 .sp)] [.own 3 (.int .i64)] (fun a=>jk.f k a.1.f0 a.1.f1 a.1.f2 a.1.f3 a.2.1)
noncomputable def jk.C {γ:Type}:Ctx γ:=mkC (fun k=>mkE [(92,fI.m k)] []) [(55,Tryz.f55)] [(55,mkA [] [] [] [])] [] []
theorem jk.iN {γ:Type}:(jk.C (γ:=γ)).Ok:=⟨(all_cons (fun k=>by kernel_rfl) all_nil),(all_cons (by kernel_rfl) all_nil),all_nil⟩
theorem jk.ok (k:Nat):j5 Tryz.prog 55 (jk.m k).s:=okW jk.iN 0 Tryz.f55 k all_nil (fun k=>all_cons (fI.ok k) (all_nil)) (all_cons ⟨Tryz.func55,by kernel_rfl⟩ all_nil) all_nil (by kernel_rfl) (by kernel_rfl) (fun a=>by kernel_rfl)
noncomputable def iX.m (k:Nat):Sm:=ko [(.sl 41 .sp),(.sl 41 .sp)] [.pl .bool] (fun a=>iX.f k a.1 a.2.1)
noncomputable def iX.C {γ:Type}:Ctx γ:=mkC (fun k=>mkE [(57,gN.m k)] []) [(56,Tryz.f56)] [(56,mkA [] [] [] [])] [] []
theorem iX.iN {γ:Type}:(iX.C (γ:=γ)).Ok:=⟨(all_cons (fun k=>by kernel_rfl) all_nil),(all_cons (by kernel_rfl) all_nil),all_nil⟩
theorem iX.ok (k:Nat):j5 Tryz.prog 56 (iX.m k).s:=okW iX.iN 0 Tryz.f56 k all_nil (fun k=>all_cons (gN.ok k) (all_nil)) (all_cons ⟨Tryz.func56,by kernel_rfl⟩ all_nil) all_nil (by kernel_rfl) (by kernel_rfl) (fun a=>by kernel_rfl)
noncomputable def gK.m (k:Nat):Sm:=ko [.fm,.fm,(.int .i64)] [.pl (.int .i64),.pl .bool] (fun a=>gK.f k a.1.f0 a.1.f1 a.1.f2 a.1.f3 a.2.1.f0 a.2.1.f1 a.2.1.f2 a.2.1.f3 a.2.2.1)
noncomputable def gK.l0.p:PS:=⟨nOs 4++[.one (.bp 1 0)]++nOs 3++[.one (.s .sp),nO,.one (.o 3 (.int .i64)),.one (.i .i64)]++nOs 35,[.box 25 [.i .i64,.i .i64,.s (.sl 41 .sp),.s .gr],.box 25 [.i .i64,.i .i64,.s (.sl 41 .sp),.s .gr]]⟩
noncomputable def gK.l0.c {γ:Type} (YK:HdK γ) (K:gJ→St→Option γ) (c4:Int) (c5:Int) (c6:List (List P.S41)) (c7:List P.S43) (c8:Int) (c9:Int) (c10:List (List P.S41)) (c11:List P.S43):=((fun y1=>K .ret ((⟨nOs 6++[.one (.i .i64),.one (.lb true)]++nOs 39,[.box 25 [.i .i64,.i .i64,.s (.sl 41 .sp),.s .gr],.box 25 [.i .i64,.i .i64,.s (.sl 41 .sp),.s .gr]]⟩:PS).mk' [.i y1,.i c4,.i c5,.l (.sl 41 .sp) c6,.l .gr c7,.i c8,.i c9,.l (.sl 41 .sp) c10,.l .gr c11])),(K (.exit 0) ((⟨nOs 47,[.box 25 [.i .i64,.i .i64,.s (.sl 41 .sp),.s .gr],.box 25 [.i .i64,.i .i64,.s (.sl 41 .sp),.s .gr]]⟩:PS).mk' [.i c4,.i c5,.l (.sl 41 .sp) c6,.l .gr c7,.i c8,.i c9,.l (.sl 41 .sp) c10,.l .gr c11])))
noncomputable def gK.l0.g {γ:Type} (YK:HdK γ) (k:Nat) (K:gJ→St→Option γ):List Lf→Option γ
  | [.l .sp c1,.l (.int .i64) c2,.i v3,.i c4,.i c5,.l (.sl 41 .sp) c6,.l .gr c7,.i c8,.i c9,.l (.sl 41 .sp) c10,.l .gr c11]=>let q:=gK.l0.c YK K c4 c5 c6 c7 c8 c9 c10 c11;gK.l0 q.1 q.2 c1 c2 c8 c9 c10 c11 k v3
  | _=>none
noncomputable def gK.C {γ:Type}:Ctx γ:=mkC (fun k=>mkE [(54,iP.m k),(55,jk.m k),(56,iX.m k)] []) [(23,Tryz.f23)] [(23,mkA [] [(0,[4,8,10,11])] [(0,[6,7])] [])] [⟨0,23,0,jN [(gK.l0.p,gK.l0.g)]⟩] []
theorem gK.l0.eq {γ:Type} (YK:HdK γ) (rl:Option Nat) (K:gJ→St→Option γ) (c1:List P.S41) (c2:List Int) (c4:Int) (c5:Int) (c6:List (List P.S41)) (c7:List P.S43) (c8:Int) (c9:Int) (c10:List (List P.S41)) (c11:List P.S43):∀ k:Nat,(fun (v3:Int)=>gK.C.lK 0 23 0 Tryz.f23 YK rl 2 k (gK.l0.p.mk' [.l .sp c1,.l (.int .i64) c2,.i v3,.i c4,.i c5,.l (.sl 41 .sp) c6,.l .gr c7,.i c8,.i c9,.l (.sl 41 .sp) c10,.l .gr c11]) K)=(fun (v3:Int)=>gK.l0.g YK k K [.l .sp c1,.l (.int .i64) c2,.i v3,.i c4,.i c5,.l (.sl 41 .sp) c6,.l .gr c7,.i c8,.i c9,.l (.sl 41 .sp) c10,.l .gr c11]):=iK (fun R k v3=>gK.l0T (gK.l0.c YK K c4 c5 c6 c7 c8 c9 c10 c11).1 (gK.l0.c YK K c4 c5 c6 c7 c8 c9 c10 c11).2 c1 c2 c8 c9 c10 c11 R k v3) (by kernel_rfl) (fun k=>by kernel_rfl) (fun k=>by kernel_rfl)
theorem gK.iN {γ:Type}:(gK.C (γ:=γ)).Ok:=⟨(all_cons (fun k=>by kernel_rfl) all_nil),(all_cons (by kernel_rfl) all_nil),all_nil⟩
theorem gK.e0 {γ:Type}:jE (gK.C (γ:=γ)) ⟨0,23,0,jN [(gK.l0.p,gK.l0.g)]⟩:=gK.iN.lS Tryz.f23 [] (by kernel_rfl) (by kernel_rfl) (by kernel_rfl) (all_cons jR all_nil) (all_cons (fun YK rl k ls K v hv=>(show gK.l0.g YK k K ls=some v→_ from fun hv=>by
  unfold gK.l0.g at hv;split at hv
  · exact (congrFun (gK.l0.eq YK rl K _ _ _ _ _ _ _ _ _ _ k) _).trans hv
  · cases hv) hv) all_nil)
theorem gK.ok (k:Nat):j5 Tryz.prog 23 (gK.m k).s:=okW gK.iN 0 Tryz.f23 k all_nil (fun k=>all_cons (iP.ok k) (all_cons (jk.ok k) (all_cons (iX.ok k) (all_nil)))) (all_cons ⟨Tryz.func23,by kernel_rfl⟩ all_nil) (all_cons gK.e0 all_nil) (by kernel_rfl) (by kernel_rfl) (fun a=>by kernel_rfl)
end Go.Proofs.YtongeknogcboiaaGreat.R
namespace Go.Proofs.YtongeknogcboiaaGreat.R
open M Go.RowKit Go.Proofs.YtongeknogcboiaaGreatW.gq Go.Proofs.YtongeknogcboiaaGreatW.iE Go.Proofs.YtongeknogcboiaaGreatW.iR
set_option linter.unusedVariables false
noncomputable def gM.m (k:Nat):Sm:=ko [(.int .i64),.fm,.fm,(.int .i64)] [.pl (.int .i64),.pl (.int .i64),.pl .bool] (fun a=>gM.f k a.1 a.2.1.f0 a.2.1.f1 a.2.1.f2 a.2.1.f3 a.2.2.1.f0 a.2.2.1.f1 a.2.2.1.f2 a.2.2.1.f3 a.2.2.2.1)
noncomputable def gM.l0.p:PS:=⟨[.one (.i .i64)]++nOs 5++[.one (.bp 1 0)]++nOs 4++[.one (.s .sp),nO,.one (.o 3 (.int .i64)),.one (.i .i64),.one (.i .i64),.one (.b),.one (.i .i64)]++nOs 60,[.box 25 [.i .i64,.i .i64,.s (.sl 41 .sp),.s .gr],.box 25 [.i .i64,.i .i64,.s (.sl 41 .sp),.s .gr]]⟩
noncomputable def gM.l0.c {γ:Type} (YK:HdK γ) (K:gJ→St→Option γ) (c8:Int) (c9:Int) (c10:List (List P.S41)) (c11:List P.S43) (c12:Int) (c13:Int) (c14:List (List P.S41)) (c15:List P.S43):=(fun y1 y2 y3=>K (.exit 0) ((⟨nOs 14++[.one (.i .i64),.one (.i .i64),.one (.b)]++nOs 61,[.box 25 [.i .i64,.i .i64,.s (.sl 41 .sp),.s .gr],.box 25 [.i .i64,.i .i64,.s (.sl 41 .sp),.s .gr]]⟩:PS).mk' [.i y1,.i y2,.b y3,.i c8,.i c9,.l (.sl 41 .sp) c10,.l .gr c11,.i c12,.i c13,.l (.sl 41 .sp) c14,.l .gr c15]))
noncomputable def gM.l0.g {γ:Type} (YK:HdK γ) (k:Nat) (K:gJ→St→Option γ):List Lf→Option γ
  | [.i c1,.l .sp c2,.l (.int .i64) c3,.i v4,.i v5,.b v6,.i v7,.i c8,.i c9,.l (.sl 41 .sp) c10,.l .gr c11,.i c12,.i c13,.l (.sl 41 .sp) c14,.l .gr c15]=>gM.l0 (gM.l0.c YK K c8 c9 c10 c11 c12 c13 c14 c15) c1 c2 c3 c12 c13 c14 c15 k v4 v5 v6 v7
  | _=>none
noncomputable def gM.C {γ:Type}:Ctx γ:=mkC (fun k=>mkE [(54,iP.m k),(55,jk.m k),(56,iX.m k),(57,gN.m k)] []) [(24,Tryz.f24)] [(24,mkA [] [(0,[0,6,11,13,14,15,16,17])] [(0,[14,15,16])] [])] [⟨0,24,0,jN [(gM.l0.p,gM.l0.g)]⟩] []
theorem gM.l0.eq {γ:Type} (YK:HdK γ) (rl:Option Nat) (K:gJ→St→Option γ) (c1:Int) (c2:List P.S41) (c3:List Int) (c8:Int) (c9:Int) (c10:List (List P.S41)) (c11:List P.S43) (c12:Int) (c13:Int) (c14:List (List P.S41)) (c15:List P.S43):∀ k:Nat,(fun (v4:Int) (v5:Int) (v6:Bool) (v7:Int)=>gM.C.lK 0 24 0 Tryz.f24 YK rl 2 k (gM.l0.p.mk' [.i c1,.l .sp c2,.l (.int .i64) c3,.i v4,.i v5,.b v6,.i v7,.i c8,.i c9,.l (.sl 41 .sp) c10,.l .gr c11,.i c12,.i c13,.l (.sl 41 .sp) c14,.l .gr c15]) K)=(fun (v4:Int) (v5:Int) (v6:Bool) (v7:Int)=>gM.l0.g YK k K [.i c1,.l .sp c2,.l (.int .i64) c3,.i v4,.i v5,.b v6,.i v7,.i c8,.i c9,.l (.sl 41 .sp) c10,.l .gr c11,.i c12,.i c13,.l (.sl 41 .sp) c14,.l .gr c15]):=iK (fun R k v4 v5 v6 v7=>gM.l0T (gM.l0.c YK K c8 c9 c10 c11 c12 c13 c14 c15) c1 c2 c3 c12 c13 c14 c15 R k v4 v5 v6 v7) (by kernel_rfl) (fun k=>by kernel_rfl) (fun k=>by kernel_rfl)
theorem gM.iN {γ:Type}:(gM.C (γ:=γ)).Ok:=⟨(all_cons (fun k=>by kernel_rfl) all_nil),(all_cons (by kernel_rfl) all_nil),all_nil⟩
theorem gM.e0 {γ:Type}:jE (gM.C (γ:=γ)) ⟨0,24,0,jN [(gM.l0.p,gM.l0.g)]⟩:=gM.iN.lS Tryz.f24 [] (by kernel_rfl) (by kernel_rfl) (by kernel_rfl) (all_cons jR all_nil) (all_cons (fun YK rl k ls K v hv=>(show gM.l0.g YK k K ls=some v→_ from fun hv=>by
  unfold gM.l0.g at hv;split at hv
  · exact (congrFun (congrFun (congrFun (congrFun (gM.l0.eq YK rl K _ _ _ _ _ _ _ _ _ _ _ k) _) _) _) _).trans hv
  · cases hv) hv) all_nil)
theorem gM.ok (k:Nat):j5 Tryz.prog 24 (gM.m k).s:=okW gM.iN 0 Tryz.f24 k all_nil (fun k=>all_cons (iP.ok k) (all_cons (jk.ok k) (all_cons (iX.ok k) (all_cons (gN.ok k) (all_nil))))) (all_cons ⟨Tryz.func24,by kernel_rfl⟩ all_nil) (all_cons gM.e0 all_nil) (by kernel_rfl) (by kernel_rfl) (fun a=>by kernel_rfl)
noncomputable def jr.m (k:Nat):Sm:=ko [.fm,(.int .i64)] [.pl .sp,.pl .bool] (fun a=>jr.f k a.1.f0 a.1.f1 a.1.f2 a.1.f3 a.2.1)
noncomputable def jr.C {γ:Type}:Ctx γ:=mkC (fun k=>mkE [(54,iP.m k)] []) [(25,Tryz.f25)] [(25,mkA [] [] [] [])] [] []
theorem jr.iN {γ:Type}:(jr.C (γ:=γ)).Ok:=⟨(all_cons (fun k=>by kernel_rfl) all_nil),(all_cons (by kernel_rfl) all_nil),all_nil⟩
theorem jr.ok (k:Nat):j5 Tryz.prog 25 (jr.m k).s:=okW jr.iN 0 Tryz.f25 k all_nil (fun k=>all_cons (iP.ok k) (all_nil)) (all_cons ⟨Tryz.func25,by kernel_rfl⟩ all_nil) all_nil (by kernel_rfl) (by kernel_rfl) (fun a=>by kernel_rfl)
noncomputable def jK.m (k:Nat):Sm:=ko [.fm] [.pl (.int .i64)] (fun a=>jK.f k a.1.f0 a.1.f1 a.1.f2 a.1.f3)
noncomputable def jK.C {γ:Type}:Ctx γ:=mkC (fun k=>mkE [] []) [(96,Tryz.f96)] [(96,mkA [] [] [] [])] [] []
theorem jK.iN {γ:Type}:(jK.C (γ:=γ)).Ok:=⟨(all_cons (fun k=>by kernel_rfl) all_nil),(all_cons (by kernel_rfl) all_nil),all_nil⟩
theorem jK.ok (k:Nat):j5 Tryz.prog 96 (jK.m k).s:=okW jK.iN 0 Tryz.f96 k all_nil (fun k=>all_nil) (all_cons ⟨Tryz.func96,by kernel_rfl⟩ all_nil) all_nil (by kernel_rfl) (by kernel_rfl) (fun a=>by kernel_rfl)
noncomputable def jL.m (k:Nat):Sm:=ko [.fm,(.int .i64)] [.pl .bool] (fun a=>jL.f k a.1.f0 a.1.f1 a.1.f2 a.1.f3 a.2.1)
noncomputable def jL.C {γ:Type}:Ctx γ:=mkC (fun k=>mkE [(90,gY.m k)] []) [(97,Tryz.f97)] [(97,mkA [] [] [] [])] [] []
theorem jL.iN {γ:Type}:(jL.C (γ:=γ)).Ok:=⟨(all_cons (fun k=>by kernel_rfl) all_nil),(all_cons (by kernel_rfl) all_nil),all_nil⟩
theorem jL.ok (k:Nat):j5 Tryz.prog 97 (jL.m k).s:=okW jL.iN 0 Tryz.f97 k all_nil (fun k=>all_cons (gY.ok k) (all_nil)) (all_cons ⟨Tryz.func97,by kernel_rfl⟩ all_nil) all_nil (by kernel_rfl) (by kernel_rfl) (fun a=>by kernel_rfl)
noncomputable def fJ.m (k:Nat):Sm:=ko [.fm,(.int .i64),(.int .i64)] [.pl (.int .i64),.pl .bool] (fun a=>fJ.f k a.1.f0 a.1.f1 a.1.f2 a.1.f3 a.2.1 a.2.2.1)
noncomputable def fJ.l0.p:PS:=⟨[nO,.one (.i .i64),.one (.i .i64),.one (.bp 0 0)]++nOs 4++[.one (.b),.one (.i .i64),.one (.i .i64)]++nOs 78,[.box 25 [.i .i64,.i .i64,.s (.sl 41 .sp),.s .gr]]⟩
noncomputable def fJ.l0.c {γ:Type} (YK:HdK γ) (K:gJ→St→Option γ) (c1:Int) (c2:Int) (c6:Int) (c7:Int) (c8:List (List P.S41)) (c9:List P.S43):=(fun y1 y2=>K (.exit 0) ((⟨[nO,.one (.i .i64),.one (.i .i64),.one (.bp 0 0)]++nOs 4++[.one (.b),.one (.i .i64)]++nOs 79,[.box 25 [.i .i64,.i .i64,.s (.sl 41 .sp),.s .gr]]⟩:PS).mk' [.i c1,.i c2,.b y1,.i y2,.i c6,.i c7,.l (.sl 41 .sp) c8,.l .gr c9]))
noncomputable def fJ.l0.g {γ:Type} (YK:HdK γ) (k:Nat) (K:gJ→St→Option γ):List Lf→Option γ
  | [.i c1,.i c2,.b v3,.i v4,.i v5,.i c6,.i c7,.l (.sl 41 .sp) c8,.l .gr c9]=>fJ.l0 (fJ.l0.c YK K c1 c2 c6 c7 c8 c9) c1 c2 c9 k v3 v4 v5
  | _=>none
noncomputable def fJ.l1.p:PS:=⟨[nO,.one (.i .i64),.one (.i .i64),.one (.bp 0 0)]++nOs 4++[.one (.b),.one (.i .i64),nO,nO,.one (.i .i64)]++nOs 76,[.box 25 [.i .i64,.i .i64,.s (.sl 41 .sp),.s .gr]]⟩
noncomputable def fJ.l1.c {γ:Type} (YK:HdK γ) (K:gJ→St→Option γ) (c6:Int) (c7:Int) (c8:List (List P.S41)) (c9:List P.S43):=(fun y1 y2=>K (.exit 2) ((⟨nOs 8++[.one (.b),.one (.i .i64)]++nOs 79,[.box 25 [.i .i64,.i .i64,.s (.sl 41 .sp),.s .gr]]⟩:PS).mk' [.b y1,.i y2,.i c6,.i c7,.l (.sl 41 .sp) c8,.l .gr c9]))
noncomputable def fJ.l1.g {γ:Type} (YK:HdK γ) (k:Nat) (K:gJ→St→Option γ):List Lf→Option γ
  | [.i c1,.i c2,.b v3,.i v4,.i v5,.i c6,.i c7,.l (.sl 41 .sp) c8,.l .gr c9]=>fJ.l1 (fJ.l1.c YK K c6 c7 c8 c9) c1 c2 c6 c7 c8 c9 k v3 v4 v5
  | _=>none
noncomputable def fJ.C {γ:Type}:Ctx γ:=mkC (fun k=>mkE [(96,jK.m k),(97,jL.m k)] []) [(58,Tryz.f58)] [(58,mkA [] [(0,[1,2,3,8,9,10]),(2,[1,2,3,8,9,12])] [(0,[1,2,3,8,9]),(2,[8,9])] [])] [⟨0,58,0,jN [(fJ.l0.p,fJ.l0.g)]⟩,⟨0,58,2,jN [(fJ.l1.p,fJ.l1.g)]⟩] []
theorem fJ.l0.eq {γ:Type} (YK:HdK γ) (rl:Option Nat) (K:gJ→St→Option γ) (c1:Int) (c2:Int) (c6:Int) (c7:Int) (c8:List (List P.S41)) (c9:List P.S43):∀ k:Nat,(fun (v3:Bool) (v4:Int) (v5:Int)=>fJ.C.lK 0 58 0 Tryz.f58 YK rl 1 k (fJ.l0.p.mk' [.i c1,.i c2,.b v3,.i v4,.i v5,.i c6,.i c7,.l (.sl 41 .sp) c8,.l .gr c9]) K)=(fun (v3:Bool) (v4:Int) (v5:Int)=>fJ.l0.g YK k K [.i c1,.i c2,.b v3,.i v4,.i v5,.i c6,.i c7,.l (.sl 41 .sp) c8,.l .gr c9]):=iK (fun R k v3 v4 v5=>fJ.l0T (fJ.l0.c YK K c1 c2 c6 c7 c8 c9) c1 c2 c9 R k v3 v4 v5) (by kernel_rfl) (fun k=>by kernel_rfl) (fun k=>by kernel_rfl)
theorem fJ.l1.eq {γ:Type} (YK:HdK γ) (rl:Option Nat) (K:gJ→St→Option γ) (c1:Int) (c2:Int) (c6:Int) (c7:Int) (c8:List (List P.S41)) (c9:List P.S43):∀ k:Nat,(fun (v3:Bool) (v4:Int) (v5:Int)=>fJ.C.lK 0 58 2 Tryz.f58 YK rl 1 k (fJ.l1.p.mk' [.i c1,.i c2,.b v3,.i v4,.i v5,.i c6,.i c7,.l (.sl 41 .sp) c8,.l .gr c9]) K)=(fun (v3:Bool) (v4:Int) (v5:Int)=>fJ.l1.g YK k K [.i c1,.i c2,.b v3,.i v4,.i v5,.i c6,.i c7,.l (.sl 41 .sp) c8,.l .gr c9]):=iK (fun R k v3 v4 v5=>fJ.l1T (fJ.l1.c YK K c6 c7 c8 c9) c1 c2 c6 c7 c8 c9 R k v3 v4 v5) (by kernel_rfl) (fun k=>by kernel_rfl) (fun k=>by kernel_rfl)
theorem fJ.iN {γ:Type}:(fJ.C (γ:=γ)).Ok:=⟨(all_cons (fun k=>by kernel_rfl) all_nil),(all_cons (by kernel_rfl) all_nil),all_nil⟩
theorem fJ.e0 {γ:Type}:jE (fJ.C (γ:=γ)) ⟨0,58,0,jN [(fJ.l0.p,fJ.l0.g)]⟩:=fJ.iN.lS Tryz.f58 [] (by kernel_rfl) (by kernel_rfl) (by kernel_rfl) (all_cons jR (all_cons jR all_nil)) (all_cons (fun YK rl k ls K v hv=>(show fJ.l0.g YK k K ls=some v→_ from fun hv=>by
  unfold fJ.l0.g at hv;split at hv
  · exact (congrFun (congrFun (congrFun (fJ.l0.eq YK rl K _ _ _ _ _ _ k) _) _) _).trans hv
  · cases hv) hv) all_nil)
theorem fJ.e1 {γ:Type}:jE (fJ.C (γ:=γ)) ⟨0,58,2,jN [(fJ.l1.p,fJ.l1.g)]⟩:=fJ.iN.lS Tryz.f58 [] (by kernel_rfl) (by kernel_rfl) (by kernel_rfl) (all_cons jR (all_cons jR all_nil)) (all_cons (fun YK rl k ls K v hv=>(show fJ.l1.g YK k K ls=some v→_ from fun hv=>by
  unfold fJ.l1.g at hv;split at hv
  · exact (congrFun (congrFun (congrFun (fJ.l1.eq YK rl K _ _ _ _ _ _ k) _) _) _).trans hv
  · cases hv) hv) all_nil)
theorem fJ.ok (k:Nat):j5 Tryz.prog 58 (fJ.m k).s:=okW fJ.iN 0 Tryz.f58 k all_nil (fun k=>all_cons (jK.ok k) (all_cons (jL.ok k) (all_nil))) (all_cons ⟨Tryz.func58,by kernel_rfl⟩ all_nil) (all_cons fJ.e0 (all_cons fJ.e1 all_nil)) (by kernel_rfl) (by kernel_rfl) (fun a=>by kernel_rfl)
noncomputable def jv.m (k:Nat):Sm:=ko [.fm,(.int .i64)] [.pl (.int .i64),.pl .bool] (fun a=>jv.f k a.1.f0 a.1.f1 a.1.f2 a.1.f3 a.2.1)
noncomputable def jv.C {γ:Type}:Ctx γ:=mkC (fun k=>mkE [(58,fJ.m k)] []) [(27,Tryz.f27)] [(27,mkA [] [] [] [])] [] []
theorem jv.iN {γ:Type}:(jv.C (γ:=γ)).Ok:=⟨(all_cons (fun k=>by kernel_rfl) all_nil),(all_cons (by kernel_rfl) all_nil),all_nil⟩
theorem jv.ok (k:Nat):j5 Tryz.prog 27 (jv.m k).s:=okW jv.iN 0 Tryz.f27 k all_nil (fun k=>all_cons (fJ.ok k) (all_nil)) (all_cons ⟨Tryz.func27,by kernel_rfl⟩ all_nil) all_nil (by kernel_rfl) (by kernel_rfl) (fun a=>by kernel_rfl)
noncomputable def jy.m (k:Nat):Sm:=ko [.fm,(.int .i64)] [.pl (.int .i64),.pl .bool] (fun a=>jy.f k a.1.f0 a.1.f1 a.1.f2 a.1.f3 a.2.1)
noncomputable def jy.C {γ:Type}:Ctx γ:=mkC (fun k=>mkE [(58,fJ.m k)] []) [(29,Tryz.f29)] [(29,mkA [] [] [] [])] [] []
theorem jy.iN {γ:Type}:(jy.C (γ:=γ)).Ok:=⟨(all_cons (fun k=>by kernel_rfl) all_nil),(all_cons (by kernel_rfl) all_nil),all_nil⟩
theorem jy.ok (k:Nat):j5 Tryz.prog 29 (jy.m k).s:=okW jy.iN 0 Tryz.f29 k all_nil (fun k=>all_cons (fJ.ok k) (all_nil)) (all_cons ⟨Tryz.func29,by kernel_rfl⟩ all_nil) all_nil (by kernel_rfl) (by kernel_rfl) (fun a=>by kernel_rfl)
noncomputable def jZ.m (k:Nat):Sm:=ko [.fm,(.int .i64)] [.pl (.int .i64),.pl .bool] (fun a=>jZ.f k a.1.f0 a.1.f1 a.1.f2 a.1.f3 a.2.1)
noncomputable def jZ.C {γ:Type}:Ctx γ:=mkC (fun k=>mkE [(59,kK.m k),(61,jc.m k)] []) [(30,Tryz.f30)] [(30,mkA [] [] [] [])] [] []
theorem jZ.iN {γ:Type}:(jZ.C (γ:=γ)).Ok:=⟨(all_cons (fun k=>by kernel_rfl) all_nil),(all_cons (by kernel_rfl) all_nil),all_nil⟩
theorem jZ.ok (k:Nat):j5 Tryz.prog 30 (jZ.m k).s:=okW jZ.iN 0 Tryz.f30 k all_nil (fun k=>all_cons (kK.ok k) (all_cons (jc.ok k) (all_nil))) (all_cons ⟨Tryz.func30,by kernel_rfl⟩ all_nil) all_nil (by kernel_rfl) (by kernel_rfl) (fun a=>by kernel_rfl)
noncomputable def iw.m (k:Nat):Sm:=ko [(.sl 41 .sp),(.sl 41 .sp)] [.pl .bool] (fun a=>iw.f k a.1 a.2.1)
noncomputable def iw.l0.p:PS:=⟨[nO,.one (.s .sp)]++nOs 10++[.one (.s .sp),.one (.i .i64),.one (.i .i64)]++nOs 11,[]⟩
noncomputable def iw.l0.c {γ:Type} (YK:HdK γ) (K:gJ→St→Option γ)  := ((K .ret ((⟨nOs 4++[.one (.lb false)]++nOs 21,[]⟩:PS).mk' [])),(K (.exit 0) ((⟨nOs 26,[]⟩:PS).mk' [])))
noncomputable def iw.l0.g {γ:Type} (YK:HdK γ) (k:Nat) (K:gJ→St→Option γ):List Lf→Option γ
  | [.l .sp c1,.l .sp c2,.i c3,.i v4]=>let q:=iw.l0.c YK K;iw.l0 q.1 q.2 c1 c2 c3 k v4
  | _=>none
noncomputable def iw.C {γ:Type}:Ctx γ:=mkC (fun k=>mkE [] []) [(62,Tryz.f62)] [(62,mkA [] [(0,[1,12,13,14])] [(0,[4])] [])] [⟨0,62,0,jN [(iw.l0.p,iw.l0.g)]⟩] []
theorem iw.l0.eq {γ:Type} (YK:HdK γ) (rl:Option Nat) (K:gJ→St→Option γ) (c1:List P.S41) (c2:List P.S41) (c3:Int):∀ k:Nat,(fun (v4:Int)=>iw.C.lK 0 62 0 Tryz.f62 YK rl 0 k (iw.l0.p.mk' [.l .sp c1,.l .sp c2,.i c3,.i v4]) K)=(fun (v4:Int)=>iw.l0.g YK k K [.l .sp c1,.l .sp c2,.i c3,.i v4]):=iK (fun R k v4=>iw.l0T (iw.l0.c YK K).1 (iw.l0.c YK K).2 c1 c2 c3 R k v4) (by kernel_rfl) (fun k=>by kernel_rfl) (fun k=>by kernel_rfl)
theorem iw.iN {γ:Type}:(iw.C (γ:=γ)).Ok:=⟨(all_cons (fun k=>by kernel_rfl) all_nil),(all_cons (by kernel_rfl) all_nil),all_nil⟩
theorem iw.e0 {γ:Type}:jE (iw.C (γ:=γ)) ⟨0,62,0,jN [(iw.l0.p,iw.l0.g)]⟩:=iw.iN.lS Tryz.f62 [] (by kernel_rfl) (by kernel_rfl) (by kernel_rfl) (all_cons jR all_nil) (all_cons (fun YK rl k ls K v hv=>(show iw.l0.g YK k K ls=some v→_ from fun hv=>by
  unfold iw.l0.g at hv;split at hv
  · exact (congrFun (iw.l0.eq YK rl K _ _ _ k) _).trans hv
  · cases hv) hv) all_nil)
theorem iw.ok (k:Nat):j5 Tryz.prog 62 (iw.m k).s:=okW iw.iN 0 Tryz.f62 k all_nil (fun k=>all_nil) (all_cons ⟨Tryz.func62,by kernel_rfl⟩ all_nil) (all_cons iw.e0 all_nil) (by kernel_rfl) (by kernel_rfl) (fun a=>by kernel_rfl)
noncomputable def fF.m (k:Nat):Sm:=ko [.fm,.fm] [.pl .bool] (fun a=>fF.f k a.1.f0 a.1.f1 a.1.f2 a.1.f3 a.2.1.f0 a.2.1.f1 a.2.1.f2 a.2.1.f3)
noncomputable def fF.l1.p:PS:=⟨[nO,nO,.one (.bp 0 0),.one (.bp 1 0)]++nOs 36++[.one (.s (.sl 41 .sp)),.one (.i .i64),.one (.i .i64)]++nOs 43,[.box 25 [.i .i64,.i .i64,.s (.sl 41 .sp),.s .gr],.box 25 [.i .i64,.i .i64,.s (.sl 41 .sp),.s .gr]]⟩
noncomputable def fF.l1.c {γ:Type} (YK:HdK γ) (K:gJ→St→Option γ) (c4:Int) (c5:Int) (c6:List (List P.S41)) (c7:List P.S43) (c8:Int) (c9:Int) (c10:List (List P.S41)) (c11:List P.S43):=((K .ret ((⟨[nO,nO,.one (.bp 0 0),.one (.bp 1 0),.one (.lb false)]++nOs 81,[.box 25 [.i .i64,.i .i64,.s (.sl 41 .sp),.s .gr],.box 25 [.i .i64,.i .i64,.s (.sl 41 .sp),.s .gr]]⟩:PS).mk' [.i c4,.i c5,.l (.sl 41 .sp) c6,.l .gr c7,.i c8,.i c9,.l (.sl 41 .sp) c10,.l .gr c11])),(K (.exit 0) ((⟨[nO,nO,.one (.bp 0 0),.one (.bp 1 0)]++nOs 82,[.box 25 [.i .i64,.i .i64,.s (.sl 41 .sp),.s .gr],.box 25 [.i .i64,.i .i64,.s (.sl 41 .sp),.s .gr]]⟩:PS).mk' [.i c4,.i c5,.l (.sl 41 .sp) c6,.l .gr c7,.i c8,.i c9,.l (.sl 41 .sp) c10,.l .gr c11])))
noncomputable def fF.l1.g {γ:Type} (YK:HdK γ) (k:Nat) (K:gJ→St→Option γ):List Lf→Option γ
  | [.l (.sl 41 .sp) c1,.i c2,.i v3,.i c4,.i c5,.l (.sl 41 .sp) c6,.l .gr c7,.i c8,.i c9,.l (.sl 41 .sp) c10,.l .gr c11]=>let q:=fF.l1.c YK K c4 c5 c6 c7 c8 c9 c10 c11;fF.l1 q.1 q.2 c1 c2 c10 k v3
  | _=>none
noncomputable def fF.l2.p:PS:=⟨nOs 3++[.one (.bp 1 0)]++nOs 53++[.one (.s .gr),.one (.i .i64),.one (.i .i64)]++nOs 26,[.box 25 [.i .i64,.i .i64,.s (.sl 41 .sp),.s .gr],.box 25 [.i .i64,.i .i64,.s (.sl 41 .sp),.s .gr]]⟩
noncomputable def fF.l2.c {γ:Type} (YK:HdK γ) (K:gJ→St→Option γ) (c4:Int) (c5:Int) (c6:List (List P.S41)) (c7:List P.S43) (c8:Int) (c9:Int) (c10:List (List P.S41)) (c11:List P.S43):=((K .ret ((⟨nOs 4++[.one (.lb false)]++nOs 81,[.box 25 [.i .i64,.i .i64,.s (.sl 41 .sp),.s .gr],.box 25 [.i .i64,.i .i64,.s (.sl 41 .sp),.s .gr]]⟩:PS).mk' [.i c4,.i c5,.l (.sl 41 .sp) c6,.l .gr c7,.i c8,.i c9,.l (.sl 41 .sp) c10,.l .gr c11])),(K (.exit 2) ((⟨nOs 86,[.box 25 [.i .i64,.i .i64,.s (.sl 41 .sp),.s .gr],.box 25 [.i .i64,.i .i64,.s (.sl 41 .sp),.s .gr]]⟩:PS).mk' [.i c4,.i c5,.l (.sl 41 .sp) c6,.l .gr c7,.i c8,.i c9,.l (.sl 41 .sp) c10,.l .gr c11])))
noncomputable def fF.l2.g {γ:Type} (YK:HdK γ) (k:Nat) (K:gJ→St→Option γ):List Lf→Option γ
  | [.l .gr c1,.i c2,.i v3,.i c4,.i c5,.l (.sl 41 .sp) c6,.l .gr c7,.i c8,.i c9,.l (.sl 41 .sp) c10,.l .gr c11]=>let q:=fF.l2.c YK K c4 c5 c6 c7 c8 c9 c10 c11;fF.l2 q.1 q.2 c1 c2 c11 k v3
  | _=>none
noncomputable def fF.l0.p:PS:=⟨[nO,nO,.one (.bp 0 0),.one (.bp 1 0)]++nOs 82,[.box 25 [.i .i64,.i .i64,.s (.sl 41 .sp),.s .gr],.box 25 [.i .i64,.i .i64,.s (.sl 41 .sp),.s .gr]]⟩
noncomputable def fF.l0.c {γ:Type} (YK:HdK γ) (K:gJ→St→Option γ)  := ((fun y1 y2 y3 y4 y5 y6 y7 y8=>K .ret ((⟨nOs 4++[.one (.lb false)]++nOs 81,[.box 25 [.i .i64,.i .i64,.s (.sl 41 .sp),.s .gr],.box 25 [.i .i64,.i .i64,.s (.sl 41 .sp),.s .gr]]⟩:PS).mk' [.i y1,.i y2,.l (.sl 41 .sp) y3,.l .gr y4,.i y5,.i y6,.l (.sl 41 .sp) y7,.l .gr y8])),(fun y1 y2 y3 y4 y5 y6 y7 y8=>K .ret ((⟨nOs 4++[.one (.lb true)]++nOs 81,[.box 25 [.i .i64,.i .i64,.s (.sl 41 .sp),.s .gr],.box 25 [.i .i64,.i .i64,.s (.sl 41 .sp),.s .gr]]⟩:PS).mk' [.i y1,.i y2,.l (.sl 41 .sp) y3,.l .gr y4,.i y5,.i y6,.l (.sl 41 .sp) y7,.l .gr y8])))
noncomputable def fF.l0.g {γ:Type} (YK:HdK γ) (k:Nat) (K:gJ→St→Option γ):List Lf→Option γ
  | [.i v1,.i v2,.l (.sl 41 .sp) v3,.l .gr v4,.i v5,.i v6,.l (.sl 41 .sp) v7,.l .gr v8]=>let q:=fF.l0.c YK K;fF.l0 q.1 q.2 k v1 v2 v3 v4 v5 v6 v7 v8
  | _=>none
noncomputable def fF.C {γ:Type}:Ctx γ:=mkC (fun k=>mkE [(62,iw.m k)] []) [(31,Tryz.f31)] [(31,mkA [] [(0,[2,3,40,41,42]),(2,[3,57,58,59]),(1000010,[2,3])] [(0,[2,3,4]),(2,[4]),(1000010,[4])] [])] [⟨0,31,0,jN [(fF.l1.p,fF.l1.g)]⟩,⟨0,31,2,jN [(fF.l2.p,fF.l2.g)]⟩,⟨0,31,1000010,jN [(fF.l0.p,fF.l0.g)]⟩] []
theorem fF.l1.eq {γ:Type} (YK:HdK γ) (rl:Option Nat) (K:gJ→St→Option γ) (c1:List (List P.S41)) (c2:Int) (c4:Int) (c5:Int) (c6:List (List P.S41)) (c7:List P.S43) (c8:Int) (c9:Int) (c10:List (List P.S41)) (c11:List P.S43):∀ k:Nat,(fun (v3:Int)=>fF.C.lK 0 31 0 Tryz.f31 YK rl 2 k (fF.l1.p.mk' [.l (.sl 41 .sp) c1,.i c2,.i v3,.i c4,.i c5,.l (.sl 41 .sp) c6,.l .gr c7,.i c8,.i c9,.l (.sl 41 .sp) c10,.l .gr c11]) K)=(fun (v3:Int)=>fF.l1.g YK k K [.l (.sl 41 .sp) c1,.i c2,.i v3,.i c4,.i c5,.l (.sl 41 .sp) c6,.l .gr c7,.i c8,.i c9,.l (.sl 41 .sp) c10,.l .gr c11]):=iK (fun R k v3=>fF.l1T (fF.l1.c YK K c4 c5 c6 c7 c8 c9 c10 c11).1 (fF.l1.c YK K c4 c5 c6 c7 c8 c9 c10 c11).2 c1 c2 c10 R k v3) (by kernel_rfl) (fun k=>by kernel_rfl) (fun k=>by kernel_rfl)
theorem fF.l2.eq {γ:Type} (YK:HdK γ) (rl:Option Nat) (K:gJ→St→Option γ) (c1:List P.S43) (c2:Int) (c4:Int) (c5:Int) (c6:List (List P.S41)) (c7:List P.S43) (c8:Int) (c9:Int) (c10:List (List P.S41)) (c11:List P.S43):∀ k:Nat,(fun (v3:Int)=>fF.C.lK 0 31 2 Tryz.f31 YK rl 2 k (fF.l2.p.mk' [.l .gr c1,.i c2,.i v3,.i c4,.i c5,.l (.sl 41 .sp) c6,.l .gr c7,.i c8,.i c9,.l (.sl 41 .sp) c10,.l .gr c11]) K)=(fun (v3:Int)=>fF.l2.g YK k K [.l .gr c1,.i c2,.i v3,.i c4,.i c5,.l (.sl 41 .sp) c6,.l .gr c7,.i c8,.i c9,.l (.sl 41 .sp) c10,.l .gr c11]):=iK (fun R k v3=>fF.l2T (fF.l2.c YK K c4 c5 c6 c7 c8 c9 c10 c11).1 (fF.l2.c YK K c4 c5 c6 c7 c8 c9 c10 c11).2 c1 c2 c11 R k v3) (by kernel_rfl) (fun k=>by kernel_rfl) (fun k=>by kernel_rfl)
theorem fF.l0.eq {γ:Type} (YK:HdK γ) (rl:Option Nat) (K:gJ→St→Option γ) (k:Nat) (v1:Int) (v2:Int) (v3:List (List P.S41)) (v4:List P.S43) (v5:Int) (v6:Int) (v7:List (List P.S41)) (v8:List P.S43):fF.C.lK 0 31 1000010 Tryz.f31 YK rl 2 k (fF.l0.p.mk' [.i v1,.i v2,.l (.sl 41 .sp) v3,.l .gr v4,.i v5,.i v6,.l (.sl 41 .sp) v7,.l .gr v8]) K=fF.l0.g YK k K [.i v1,.i v2,.l (.sl 41 .sp) v3,.l .gr v4,.i v5,.i v6,.l (.sl 41 .sp) v7,.l .gr v8]:=by kernel_rfl
theorem fF.iN {γ:Type}:(fF.C (γ:=γ)).Ok:=⟨(all_cons (fun k=>by kernel_rfl) all_nil),(all_cons (by kernel_rfl) all_nil),all_nil⟩
theorem fF.e0 {γ:Type}:jE (fF.C (γ:=γ)) ⟨0,31,0,jN [(fF.l1.p,fF.l1.g)]⟩:=fF.iN.lS Tryz.f31 [] (by kernel_rfl) (by kernel_rfl) (by kernel_rfl) (all_cons jR (all_cons jR (all_cons jR all_nil))) (all_cons (fun YK rl k ls K v hv=>(show fF.l1.g YK k K ls=some v→_ from fun hv=>by
  unfold fF.l1.g at hv;split at hv
  · exact (congrFun (fF.l1.eq YK rl K _ _ _ _ _ _ _ _ _ _ k) _).trans hv
  · cases hv) hv) all_nil)
theorem fF.e1 {γ:Type}:jE (fF.C (γ:=γ)) ⟨0,31,2,jN [(fF.l2.p,fF.l2.g)]⟩:=fF.iN.lS Tryz.f31 [] (by kernel_rfl) (by kernel_rfl) (by kernel_rfl) (all_cons jR (all_cons jR (all_cons jR all_nil))) (all_cons (fun YK rl k ls K v hv=>(show fF.l2.g YK k K ls=some v→_ from fun hv=>by
  unfold fF.l2.g at hv;split at hv
  · exact (congrFun (fF.l2.eq YK rl K _ _ _ _ _ _ _ _ _ _ k) _).trans hv
  · cases hv) hv) all_nil)
theorem fF.e2 {γ:Type}:jE (fF.C (γ:=γ)) ⟨0,31,1000010,jN [(fF.l0.p,fF.l0.g)]⟩:=fF.iN.lS Tryz.f31 [0,2] (by kernel_rfl) (by kernel_rfl) (by kernel_rfl) (all_cons (fun _=>fF.e0) (all_cons (fun _=>fF.e1) (all_cons jR all_nil))) (all_cons (fun YK rl k ls K v hv=>(show fF.l0.g YK k K ls=some v→_ from fun hv=>by
  unfold fF.l0.g at hv;split at hv
  · exact (fF.l0.eq YK rl K k _ _ _ _ _ _ _ _).trans hv
  · cases hv) hv) all_nil)
theorem fF.ok (k:Nat):j5 Tryz.prog 31 (fF.m k).s:=okW fF.iN 0 Tryz.f31 k all_nil (fun k=>all_cons (iw.ok k) (all_nil)) (all_cons ⟨Tryz.func31,by kernel_rfl⟩ all_nil) (all_cons fF.e0 (all_cons fF.e1 (all_cons fF.e2 all_nil))) (by kernel_rfl) (by kernel_rfl) (fun a=>by kernel_rfl)
end Go.Proofs.YtongeknogcboiaaGreat.R
