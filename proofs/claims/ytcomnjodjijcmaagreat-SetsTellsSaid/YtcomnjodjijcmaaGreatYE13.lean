/- Lemmas for laws of chapter 7: what the functions that they reach compute. No condition of its own. -/
import Derived.Test.YtcomnjodjijcmaaGreatYE9
import Derived.Test.YtcomnjodjijcmaaGreatYE10
import Derived.Test.YtcomnjodjijcmaaGreatYE12
namespace Go.Proofs.YtcomnjodjijcmaaGreat.R
open M Go.RowKit Go.Proofs.YtcomnjodjijcmaaGreatW.dz Go.Proofs.YtcomnjodjijcmaaGreatW.dX Go.Proofs.YtcomnjodjijcmaaGreatW.eD
set_option linter.unusedVariables false
noncomputable def dP.m (k:Nat):Sm:=jd [.fm] [.pl (.int .i64)] (fun a=>dP.f k a.1.f0 a.1.f1 a.1.f2 a.1.f3)
noncomputable def dP.l0.p:PS:=⟨[nO,.one (.bp 0 0),nO,.one (.i .i64)]++nOs 5++[.one (.s (.sl 42 .sp)),.one (.i .i64),.one (.i .i64)]++nOs 22,[.box 25 [.i .i64,.i .i64,.s (.sl 42 .sp),.s .gr]]⟩
noncomputable def dP.l0.c {γ:Type} (YK:HdK γ) (K:dQ→St→Option γ) (c5:Int) (c6:Int) (c7:List (List P.S42)) (c8:List P.S44):=(fun y1=>K (.exit 0) ((⟨[nO,.one (.bp 0 0),nO,.one (.i .i64)]++nOs 30,[.box 25 [.i .i64,.i .i64,.s (.sl 42 .sp),.s .gr]]⟩:PS).mk' [.i y1,.i c5,.i c6,.l (.sl 42 .sp) c7,.l .gr c8]))
noncomputable def dP.l0.g {γ:Type} (YK:HdK γ) (k:Nat) (K:dQ→St→Option γ):List Lf→Option γ
  | [.i v1,.l (.sl 42 .sp) c2,.i c3,.i v4,.i c5,.i c6,.l (.sl 42 .sp) c7,.l .gr c8]=>dP.l0 (dP.l0.c YK K c5 c6 c7 c8) c2 c3 k v1 v4
  | _=>none
noncomputable def dP.l1.p:PS:=⟨nOs 3++[.one (.i .i64)]++nOs 17++[.one (.s .gr),.one (.i .i64),.one (.i .i64)]++nOs 10,[.box 25 [.i .i64,.i .i64,.s (.sl 42 .sp),.s .gr]]⟩
noncomputable def dP.l1.c {γ:Type} (YK:HdK γ) (K:dQ→St→Option γ) (c5:Int) (c6:Int) (c7:List (List P.S42)) (c8:List P.S44):=(fun y1=>K (.exit 2) ((⟨nOs 3++[.one (.i .i64)]++nOs 30,[.box 25 [.i .i64,.i .i64,.s (.sl 42 .sp),.s .gr]]⟩:PS).mk' [.i y1,.i c5,.i c6,.l (.sl 42 .sp) c7,.l .gr c8]))
noncomputable def dP.l1.g {γ:Type} (YK:HdK γ) (k:Nat) (K:dQ→St→Option γ):List Lf→Option γ
  | [.i v1,.l .gr c2,.i c3,.i v4,.i c5,.i c6,.l (.sl 42 .sp) c7,.l .gr c8]=>dP.l1 (dP.l1.c YK K c5 c6 c7 c8) c2 c3 k v1 v4
  | _=>none
noncomputable def dP.C {γ:Type}:Ctx γ:=mkC (fun k=>mkE [] []) [(108,Tryz.f108)] [(108,mkA [] [(0,[1,3,9,10,11]),(2,[3,21,22,23])] [(0,[1,3]),(2,[3])] [])] [⟨0,108,0,iD [(dP.l0.p,dP.l0.g)]⟩,⟨0,108,2,iD [(dP.l1.p,dP.l1.g)]⟩] []
theorem dP.l0.eq {γ:Type} (YK:HdK γ) (rl:Option Nat) (K:dQ→St→Option γ) (c2:List (List P.S42)) (c3:Int) (c5:Int) (c6:Int) (c7:List (List P.S42)) (c8:List P.S44):∀ k:Nat,(fun (v1:Int) (v4:Int)=>dP.C.lK 0 108 0 Tryz.f108 YK rl 1 k (dP.l0.p.mk' [.i v1,.l (.sl 42 .sp) c2,.i c3,.i v4,.i c5,.i c6,.l (.sl 42 .sp) c7,.l .gr c8]) K)=(fun (v1:Int) (v4:Int)=>dP.l0.g YK k K [.i v1,.l (.sl 42 .sp) c2,.i c3,.i v4,.i c5,.i c6,.l (.sl 42 .sp) c7,.l .gr c8]):=fH (fun R k v1 v4=>dP.l0T (dP.l0.c YK K c5 c6 c7 c8) c2 c3 R k v1 v4) (by kernel_rfl) (fun k=>by kernel_rfl) (fun k=>by kernel_rfl)
theorem dP.l1.eq {γ:Type} (YK:HdK γ) (rl:Option Nat) (K:dQ→St→Option γ) (c2:List P.S44) (c3:Int) (c5:Int) (c6:Int) (c7:List (List P.S42)) (c8:List P.S44):∀ k:Nat,(fun (v1:Int) (v4:Int)=>dP.C.lK 0 108 2 Tryz.f108 YK rl 1 k (dP.l1.p.mk' [.i v1,.l .gr c2,.i c3,.i v4,.i c5,.i c6,.l (.sl 42 .sp) c7,.l .gr c8]) K)=(fun (v1:Int) (v4:Int)=>dP.l1.g YK k K [.i v1,.l .gr c2,.i c3,.i v4,.i c5,.i c6,.l (.sl 42 .sp) c7,.l .gr c8]):=fH (fun R k v1 v4=>dP.l1T (dP.l1.c YK K c5 c6 c7 c8) c2 c3 R k v1 v4) (by kernel_rfl) (fun k=>by kernel_rfl) (fun k=>by kernel_rfl)
theorem dP.fE {γ:Type}:(dP.C (γ:=γ)).Ok:=⟨(all_cons (fun k=>by kernel_rfl) all_nil),(all_cons (by kernel_rfl) all_nil),all_nil⟩
theorem dP.e0 {γ:Type}:gu (dP.C (γ:=γ)) ⟨0,108,0,iD [(dP.l0.p,dP.l0.g)]⟩:=dP.fE.jT Tryz.f108 [] (by kernel_rfl) (by kernel_rfl) (by kernel_rfl) (all_cons iF (all_cons iF all_nil)) (all_cons (fun YK rl k ls K v hv=>(show dP.l0.g YK k K ls=some v→_ from fun hv=>by
  unfold dP.l0.g at hv;split at hv
  · exact (congrFun (congrFun (dP.l0.eq YK rl K _ _ _ _ _ _ k) _) _).trans hv
  · cases hv) hv) all_nil)
theorem dP.e1 {γ:Type}:gu (dP.C (γ:=γ)) ⟨0,108,2,iD [(dP.l1.p,dP.l1.g)]⟩:=dP.fE.jT Tryz.f108 [] (by kernel_rfl) (by kernel_rfl) (by kernel_rfl) (all_cons iF (all_cons iF all_nil)) (all_cons (fun YK rl k ls K v hv=>(show dP.l1.g YK k K ls=some v→_ from fun hv=>by
  unfold dP.l1.g at hv;split at hv
  · exact (congrFun (congrFun (dP.l1.eq YK rl K _ _ _ _ _ _ k) _) _).trans hv
  · cases hv) hv) all_nil)
theorem dP.ok (k:Nat):iV Tryz.prog 108 (dP.m k).s:=okW dP.fE 0 Tryz.f108 k all_nil (fun k=>all_nil) (all_cons ⟨Tryz.func108,by kernel_rfl⟩ all_nil) (all_cons dP.e0 (all_cons dP.e1 all_nil)) (by kernel_rfl) (by kernel_rfl) (fun a=>by kernel_rfl)
noncomputable def fI.m (k:Nat):Sm:=jd [(.int .i64)] [.pl .bool] (fun a=>fI.f k a.1)
noncomputable def fI.C {γ:Type}:Ctx γ:=mkC (fun k=>mkE [] []) [(53,Tryz.f53)] [(53,mkA [] [] [] [])] [] []
theorem fI.fE {γ:Type}:(fI.C (γ:=γ)).Ok:=⟨(all_cons (fun k=>by kernel_rfl) all_nil),(all_cons (by kernel_rfl) all_nil),all_nil⟩
theorem fI.ok (k:Nat):iV Tryz.prog 53 (fI.m k).s:=okW fI.fE 0 Tryz.f53 k all_nil (fun k=>all_nil) (all_cons ⟨Tryz.func53,by kernel_rfl⟩ all_nil) all_nil (by kernel_rfl) (by kernel_rfl) (fun a=>by kernel_rfl)
noncomputable def gq.m (k:Nat):Sm:=jd [(.int .i64)] [.pl .bool] (fun a=>gq.f k a.1)
noncomputable def gq.C {γ:Type}:Ctx γ:=mkC (fun k=>mkE [] []) [(107,Tryz.f107)] [(107,mkA [] [] [] [])] [] []
theorem gq.fE {γ:Type}:(gq.C (γ:=γ)).Ok:=⟨(all_cons (fun k=>by kernel_rfl) all_nil),(all_cons (by kernel_rfl) all_nil),all_nil⟩
theorem gq.ok (k:Nat):iV Tryz.prog 107 (gq.m k).s:=okW gq.fE 0 Tryz.f107 k all_nil (fun k=>all_nil) (all_cons ⟨Tryz.func107,by kernel_rfl⟩ all_nil) all_nil (by kernel_rfl) (by kernel_rfl) (fun a=>by kernel_rfl)
noncomputable def dV.m (k:Nat):Sm:=jd [(.sl 42 .sp)] [.pl .bool] (fun a=>dV.f k a.1)
noncomputable def dV.l0.p:PS:=⟨[.one (.s .sp)]++nOs 4++[.one (.s .sp),.one (.i .i64),.one (.i .i64)]++nOs 38,[]⟩
noncomputable def dV.l0.c {γ:Type} (YK:HdK γ) (K:dQ→St→Option γ)  := ((K .ret ((⟨[nO,nO,.one (.lb false)]++nOs 43,[]⟩:PS).mk' [])),(K (.exit 0) ((⟨nOs 46,[]⟩:PS).mk' [])))
noncomputable def dV.l0.g {γ:Type} (YK:HdK γ) (k:Nat) (K:dQ→St→Option γ):List Lf→Option γ
  | [.l .sp c1,.l .sp c2,.i c3,.i v4]=>let q:=dV.l0.c YK K;dV.l0 q.1 q.2 c1 c2 c3 k v4
  | _=>none
noncomputable def dV.C {γ:Type}:Ctx γ:=mkC (fun k=>mkE [(107,gq.m k)] []) [(146,Tryz.f146)] [(146,mkA [] [(0,[0,5,6,7])] [(0,[2])] [])] [⟨0,146,0,iD [(dV.l0.p,dV.l0.g)]⟩] []
theorem dV.l0.eq {γ:Type} (YK:HdK γ) (rl:Option Nat) (K:dQ→St→Option γ) (c1:List P.S42) (c2:List P.S42) (c3:Int):∀ k:Nat,(fun (v4:Int)=>dV.C.lK 0 146 0 Tryz.f146 YK rl 0 k (dV.l0.p.mk' [.l .sp c1,.l .sp c2,.i c3,.i v4]) K)=(fun (v4:Int)=>dV.l0.g YK k K [.l .sp c1,.l .sp c2,.i c3,.i v4]):=fH (fun R k v4=>dV.l0T (dV.l0.c YK K).1 (dV.l0.c YK K).2 c1 c2 c3 R k v4) (by kernel_rfl) (fun k=>by kernel_rfl) (fun k=>by kernel_rfl)
theorem dV.fE {γ:Type}:(dV.C (γ:=γ)).Ok:=⟨(all_cons (fun k=>by kernel_rfl) all_nil),(all_cons (by kernel_rfl) all_nil),all_nil⟩
theorem dV.e0 {γ:Type}:gu (dV.C (γ:=γ)) ⟨0,146,0,iD [(dV.l0.p,dV.l0.g)]⟩:=dV.fE.jT Tryz.f146 [] (by kernel_rfl) (by kernel_rfl) (by kernel_rfl) (all_cons iF all_nil) (all_cons (fun YK rl k ls K v hv=>(show dV.l0.g YK k K ls=some v→_ from fun hv=>by
  unfold dV.l0.g at hv;split at hv
  · exact (congrFun (dV.l0.eq YK rl K _ _ _ k) _).trans hv
  · cases hv) hv) all_nil)
theorem dV.ok (k:Nat):iV Tryz.prog 146 (dV.m k).s:=okW dV.fE 0 Tryz.f146 k all_nil (fun k=>all_cons (gq.ok k) (all_nil)) (all_cons ⟨Tryz.func146,by kernel_rfl⟩ all_nil) (all_cons dV.e0 all_nil) (by kernel_rfl) (by kernel_rfl) (fun a=>by kernel_rfl)
noncomputable def dB.m (k:Nat):Sm:=jd [.fm] [.pl .bool] (fun a=>dB.f k a.1.f0 a.1.f1 a.1.f2 a.1.f3)
noncomputable def dB.l1.p:PS:=⟨[nO,.one (.bp 0 0)]++nOs 31++[.one (.s (.sl 42 .sp)),.one (.i .i64),.one (.i .i64)]++nOs 42,[.box 25 [.i .i64,.i .i64,.s (.sl 42 .sp),.s .gr]]⟩
noncomputable def dB.l1.c {γ:Type} (YK:HdK γ) (K:dQ→St→Option γ) (c4:Int) (c5:Int) (c6:List (List P.S42)) (c7:List P.S44):=((K .ret ((⟨[nO,.one (.bp 0 0),.one (.lb false)]++nOs 75,[.box 25 [.i .i64,.i .i64,.s (.sl 42 .sp),.s .gr]]⟩:PS).mk' [.i c4,.i c5,.l (.sl 42 .sp) c6,.l .gr c7])),(K (.exit 0) ((⟨[nO,.one (.bp 0 0)]++nOs 76,[.box 25 [.i .i64,.i .i64,.s (.sl 42 .sp),.s .gr]]⟩:PS).mk' [.i c4,.i c5,.l (.sl 42 .sp) c6,.l .gr c7])))
noncomputable def dB.l1.g {γ:Type} (YK:HdK γ) (k:Nat) (K:dQ→St→Option γ):List Lf→Option γ
  | [.l (.sl 42 .sp) c1,.i c2,.i v3,.i c4,.i c5,.l (.sl 42 .sp) c6,.l .gr c7]=>let q:=dB.l1.c YK K c4 c5 c6 c7;dB.l1 q.1 q.2 c1 c2 k v3
  | _=>none
noncomputable def dB.l2.p:PS:=⟨[nO,.one (.bp 0 0)]++nOs 42++[.one (.s .gr),.one (.i .i64),.one (.i .i64)]++nOs 31,[.box 25 [.i .i64,.i .i64,.s (.sl 42 .sp),.s .gr]]⟩
noncomputable def dB.l2.c {γ:Type} (YK:HdK γ) (K:dQ→St→Option γ) (c4:Int) (c5:Int) (c6:List (List P.S42)) (c7:List P.S44):=((K .ret ((⟨[nO,nO,.one (.lb false)]++nOs 75,[.box 25 [.i .i64,.i .i64,.s (.sl 42 .sp),.s .gr]]⟩:PS).mk' [.i c4,.i c5,.l (.sl 42 .sp) c6,.l .gr c7])),(K (.exit 2) ((⟨nOs 78,[.box 25 [.i .i64,.i .i64,.s (.sl 42 .sp),.s .gr]]⟩:PS).mk' [.i c4,.i c5,.l (.sl 42 .sp) c6,.l .gr c7])))
noncomputable def dB.l2.g {γ:Type} (YK:HdK γ) (k:Nat) (K:dQ→St→Option γ):List Lf→Option γ
  | [.l .gr c1,.i c2,.i v3,.i c4,.i c5,.l (.sl 42 .sp) c6,.l .gr c7]=>let q:=dB.l2.c YK K c4 c5 c6 c7;dB.l2 q.1 q.2 c1 c2 c7 k v3
  | _=>none
noncomputable def dB.l0.p:PS:=⟨[nO,.one (.bp 0 0)]++nOs 76,[.box 25 [.i .i64,.i .i64,.s (.sl 42 .sp),.s .gr]]⟩
noncomputable def dB.l0.c {γ:Type} (YK:HdK γ) (K:dQ→St→Option γ)  := ((fun y1 y2 y3 y4=>K .ret ((⟨[nO,nO,.one (.lb false)]++nOs 75,[.box 25 [.i .i64,.i .i64,.s (.sl 42 .sp),.s .gr]]⟩:PS).mk' [.i y1,.i y2,.l (.sl 42 .sp) y3,.l .gr y4])),(fun y1 y2 y3 y4=>K .ret ((⟨[nO,nO,.one (.lb true)]++nOs 75,[.box 25 [.i .i64,.i .i64,.s (.sl 42 .sp),.s .gr]]⟩:PS).mk' [.i y1,.i y2,.l (.sl 42 .sp) y3,.l .gr y4])))
noncomputable def dB.l0.g {γ:Type} (YK:HdK γ) (k:Nat) (K:dQ→St→Option γ):List Lf→Option γ
  | [.i v1,.i v2,.l (.sl 42 .sp) v3,.l .gr v4]=>let q:=dB.l0.c YK K;dB.l0 q.1 q.2 k v1 v2 v3 v4
  | _=>none
noncomputable def dB.C {γ:Type}:Ctx γ:=mkC (fun k=>mkE [(53,fI.m k),(146,dV.m k)] []) [(109,Tryz.f109)] [(109,mkA [] [(0,[1,33,34,35]),(2,[1,44,45,46]),(1000010,[1])] [(0,[1,2]),(2,[2]),(1000010,[2])] [])] [⟨0,109,0,iD [(dB.l1.p,dB.l1.g)]⟩,⟨0,109,2,iD [(dB.l2.p,dB.l2.g)]⟩,⟨0,109,1000010,iD [(dB.l0.p,dB.l0.g)]⟩] []
theorem dB.l1.eq {γ:Type} (YK:HdK γ) (rl:Option Nat) (K:dQ→St→Option γ) (c1:List (List P.S42)) (c2:Int) (c4:Int) (c5:Int) (c6:List (List P.S42)) (c7:List P.S44):∀ k:Nat,(fun (v3:Int)=>dB.C.lK 0 109 0 Tryz.f109 YK rl 1 k (dB.l1.p.mk' [.l (.sl 42 .sp) c1,.i c2,.i v3,.i c4,.i c5,.l (.sl 42 .sp) c6,.l .gr c7]) K)=(fun (v3:Int)=>dB.l1.g YK k K [.l (.sl 42 .sp) c1,.i c2,.i v3,.i c4,.i c5,.l (.sl 42 .sp) c6,.l .gr c7]):=fH (fun R k v3=>dB.l1T (dB.l1.c YK K c4 c5 c6 c7).1 (dB.l1.c YK K c4 c5 c6 c7).2 c1 c2 R k v3) (by kernel_rfl) (fun k=>by kernel_rfl) (fun k=>by kernel_rfl)
theorem dB.l2.eq {γ:Type} (YK:HdK γ) (rl:Option Nat) (K:dQ→St→Option γ) (c1:List P.S44) (c2:Int) (c4:Int) (c5:Int) (c6:List (List P.S42)) (c7:List P.S44):∀ k:Nat,(fun (v3:Int)=>dB.C.lK 0 109 2 Tryz.f109 YK rl 1 k (dB.l2.p.mk' [.l .gr c1,.i c2,.i v3,.i c4,.i c5,.l (.sl 42 .sp) c6,.l .gr c7]) K)=(fun (v3:Int)=>dB.l2.g YK k K [.l .gr c1,.i c2,.i v3,.i c4,.i c5,.l (.sl 42 .sp) c6,.l .gr c7]):=fH (fun R k v3=>dB.l2T (dB.l2.c YK K c4 c5 c6 c7).1 (dB.l2.c YK K c4 c5 c6 c7).2 c1 c2 c7 R k v3) (by kernel_rfl) (fun k=>by kernel_rfl) (fun k=>by kernel_rfl)
theorem dB.l0.eq {γ:Type} (YK:HdK γ) (rl:Option Nat) (K:dQ→St→Option γ) (k:Nat) (v1:Int) (v2:Int) (v3:List (List P.S42)) (v4:List P.S44):dB.C.lK 0 109 1000010 Tryz.f109 YK rl 1 k (dB.l0.p.mk' [.i v1,.i v2,.l (.sl 42 .sp) v3,.l .gr v4]) K=dB.l0.g YK k K [.i v1,.i v2,.l (.sl 42 .sp) v3,.l .gr v4]:=by kernel_rfl
theorem dB.fE {γ:Type}:(dB.C (γ:=γ)).Ok:=⟨(all_cons (fun k=>by kernel_rfl) all_nil),(all_cons (by kernel_rfl) all_nil),all_nil⟩
theorem dB.e0 {γ:Type}:gu (dB.C (γ:=γ)) ⟨0,109,0,iD [(dB.l1.p,dB.l1.g)]⟩:=dB.fE.jT Tryz.f109 [] (by kernel_rfl) (by kernel_rfl) (by kernel_rfl) (all_cons iF (all_cons iF (all_cons iF all_nil))) (all_cons (fun YK rl k ls K v hv=>(show dB.l1.g YK k K ls=some v→_ from fun hv=>by
  unfold dB.l1.g at hv;split at hv
  · exact (congrFun (dB.l1.eq YK rl K _ _ _ _ _ _ k) _).trans hv
  · cases hv) hv) all_nil)
theorem dB.e1 {γ:Type}:gu (dB.C (γ:=γ)) ⟨0,109,2,iD [(dB.l2.p,dB.l2.g)]⟩:=dB.fE.jT Tryz.f109 [] (by kernel_rfl) (by kernel_rfl) (by kernel_rfl) (all_cons iF (all_cons iF (all_cons iF all_nil))) (all_cons (fun YK rl k ls K v hv=>(show dB.l2.g YK k K ls=some v→_ from fun hv=>by
  unfold dB.l2.g at hv;split at hv
  · exact (congrFun (dB.l2.eq YK rl K _ _ _ _ _ _ k) _).trans hv
  · cases hv) hv) all_nil)
theorem dB.e2 {γ:Type}:gu (dB.C (γ:=γ)) ⟨0,109,1000010,iD [(dB.l0.p,dB.l0.g)]⟩:=dB.fE.jT Tryz.f109 [0,2] (by kernel_rfl) (by kernel_rfl) (by kernel_rfl) (all_cons (fun _=>dB.e0) (all_cons (fun _=>dB.e1) (all_cons iF all_nil))) (all_cons (fun YK rl k ls K v hv=>(show dB.l0.g YK k K ls=some v→_ from fun hv=>by
  unfold dB.l0.g at hv;split at hv
  · exact (dB.l0.eq YK rl K k _ _ _ _).trans hv
  · cases hv) hv) all_nil)
theorem dB.ok (k:Nat):iV Tryz.prog 109 (dB.m k).s:=okW dB.fE 0 Tryz.f109 k all_nil (fun k=>all_cons (fI.ok k) (all_cons (dV.ok k) (all_nil))) (all_cons ⟨Tryz.func109,by kernel_rfl⟩ all_nil) (all_cons dB.e0 (all_cons dB.e1 (all_cons dB.e2 all_nil))) (by kernel_rfl) (by kernel_rfl) (fun a=>by kernel_rfl)
noncomputable def dI.m (k:Nat):Sm:=jd [.fm] [.pl .bool] (fun a=>dI.f k a.1.f0 a.1.f1 a.1.f2 a.1.f3)
noncomputable def dI.l0.p:PS:=⟨[nO,.one (.bp 0 0),nO,.one (.o 37 (.sl 42 .sp))]++nOs 7++[.one (.s (.sl 42 .sp)),.one (.i .i64),.one (.i .i64)]++nOs 48,[.box 25 [.i .i64,.i .i64,.s (.sl 42 .sp),.s .gr]]⟩
noncomputable def dI.l0.c {γ:Type} (YK:HdK γ) (K:dQ→St→Option γ) (c5:Int) (c6:Int) (c7:List (List P.S42)) (c8:List P.S44):=(fun y1=>K (.exit 0) ((⟨[nO,.one (.bp 0 0),nO,.one (.o 37 (.sl 42 .sp))]++nOs 58,[.box 25 [.i .i64,.i .i64,.s (.sl 42 .sp),.s .gr]]⟩:PS).mk' [.l (.sl 42 .sp) y1,.i c5,.i c6,.l (.sl 42 .sp) c7,.l .gr c8]))
noncomputable def dI.l0.g {γ:Type} (YK:HdK γ) (k:Nat) (K:dQ→St→Option γ):List Lf→Option γ
  | [.l (.sl 42 .sp) v1,.l (.sl 42 .sp) c2,.i c3,.i v4,.i c5,.i c6,.l (.sl 42 .sp) c7,.l .gr c8]=>dI.l0 (dI.l0.c YK K c5 c6 c7 c8) c2 c3 k v1 v4
  | _=>none
noncomputable def dI.l1.p:PS:=⟨[nO,.one (.bp 0 0),nO,.one (.o 37 (.sl 42 .sp))]++nOs 21++[.one (.s (.sl 42 .sp)),.one (.i .i64),.one (.i .i64)]++nOs 34,[.box 25 [.i .i64,.i .i64,.s (.sl 42 .sp),.s .gr]]⟩
noncomputable def dI.l1.c {γ:Type} (YK:HdK γ) (K:dQ→St→Option γ) (c5:Int) (c6:Int) (c7:List (List P.S42)) (c8:List P.S44):=((K .ret ((⟨[nO,nO,.one (.lb false)]++nOs 59,[.box 25 [.i .i64,.i .i64,.s (.sl 42 .sp),.s .gr]]⟩:PS).mk' [.i c5,.i c6,.l (.sl 42 .sp) c7,.l .gr c8])),(K (.exit 2) ((⟨nOs 62,[.box 25 [.i .i64,.i .i64,.s (.sl 42 .sp),.s .gr]]⟩:PS).mk' [.i c5,.i c6,.l (.sl 42 .sp) c7,.l .gr c8])))
noncomputable def dI.l1.g {γ:Type} (YK:HdK γ) (k:Nat) (K:dQ→St→Option γ):List Lf→Option γ
  | [.l (.sl 42 .sp) c1,.l (.sl 42 .sp) c2,.i c3,.i v4,.i c5,.i c6,.l (.sl 42 .sp) c7,.l .gr c8]=>let q:=dI.l1.c YK K c5 c6 c7 c8;dI.l1 q.1 q.2 c1 c2 c3 c5 k v4
  | _=>none
noncomputable def dI.C {γ:Type}:Ctx γ:=mkC (fun k=>mkE [] []) [(110,Tryz.f110)] [(110,mkA [20] [(0,[1,3,11,12,13]),(2,[1,3,25,26,27])] [(0,[1,3]),(2,[2])] [])] [⟨0,110,0,iD [(dI.l0.p,dI.l0.g)]⟩,⟨0,110,2,iD [(dI.l1.p,dI.l1.g)]⟩] []
theorem dI.l0.eq {γ:Type} (YK:HdK γ) (rl:Option Nat) (K:dQ→St→Option γ) (c2:List (List P.S42)) (c3:Int) (c5:Int) (c6:Int) (c7:List (List P.S42)) (c8:List P.S44):∀ k:Nat,(fun (v1:List (List P.S42)) (v4:Int)=>dI.C.lK 0 110 0 Tryz.f110 YK rl 1 k (dI.l0.p.mk' [.l (.sl 42 .sp) v1,.l (.sl 42 .sp) c2,.i c3,.i v4,.i c5,.i c6,.l (.sl 42 .sp) c7,.l .gr c8]) K)=(fun (v1:List (List P.S42)) (v4:Int)=>dI.l0.g YK k K [.l (.sl 42 .sp) v1,.l (.sl 42 .sp) c2,.i c3,.i v4,.i c5,.i c6,.l (.sl 42 .sp) c7,.l .gr c8]):=fH (fun R k v1 v4=>dI.l0T (dI.l0.c YK K c5 c6 c7 c8) c2 c3 R k v1 v4) (by kernel_rfl) (fun k=>by kernel_rfl) (fun k=>by kernel_rfl)
theorem dI.l1.eq {γ:Type} (YK:HdK γ) (rl:Option Nat) (K:dQ→St→Option γ) (c1:List (List P.S42)) (c2:List (List P.S42)) (c3:Int) (c5:Int) (c6:Int) (c7:List (List P.S42)) (c8:List P.S44):∀ k:Nat,(fun (v4:Int)=>dI.C.lK 0 110 2 Tryz.f110 YK rl 1 k (dI.l1.p.mk' [.l (.sl 42 .sp) c1,.l (.sl 42 .sp) c2,.i c3,.i v4,.i c5,.i c6,.l (.sl 42 .sp) c7,.l .gr c8]) K)=(fun (v4:Int)=>dI.l1.g YK k K [.l (.sl 42 .sp) c1,.l (.sl 42 .sp) c2,.i c3,.i v4,.i c5,.i c6,.l (.sl 42 .sp) c7,.l .gr c8]):=fH (fun R k v4=>dI.l1T (dI.l1.c YK K c5 c6 c7 c8).1 (dI.l1.c YK K c5 c6 c7 c8).2 c1 c2 c3 c5 R k v4) (by kernel_rfl) (fun k=>by kernel_rfl) (fun k=>by kernel_rfl)
theorem dI.fE {γ:Type}:(dI.C (γ:=γ)).Ok:=⟨(all_cons (fun k=>by kernel_rfl) all_nil),(all_cons (by kernel_rfl) all_nil),all_nil⟩
theorem dI.e0 {γ:Type}:gu (dI.C (γ:=γ)) ⟨0,110,0,iD [(dI.l0.p,dI.l0.g)]⟩:=dI.fE.jT Tryz.f110 [] (by kernel_rfl) (by kernel_rfl) (by kernel_rfl) (all_cons iF (all_cons iF all_nil)) (all_cons (fun YK rl k ls K v hv=>(show dI.l0.g YK k K ls=some v→_ from fun hv=>by
  unfold dI.l0.g at hv;split at hv
  · exact (congrFun (congrFun (dI.l0.eq YK rl K _ _ _ _ _ _ k) _) _).trans hv
  · cases hv) hv) all_nil)
theorem dI.e1 {γ:Type}:gu (dI.C (γ:=γ)) ⟨0,110,2,iD [(dI.l1.p,dI.l1.g)]⟩:=dI.fE.jT Tryz.f110 [] (by kernel_rfl) (by kernel_rfl) (by kernel_rfl) (all_cons iF (all_cons iF all_nil)) (all_cons (fun YK rl k ls K v hv=>(show dI.l1.g YK k K ls=some v→_ from fun hv=>by
  unfold dI.l1.g at hv;split at hv
  · exact (congrFun (dI.l1.eq YK rl K _ _ _ _ _ _ _ k) _).trans hv
  · cases hv) hv) all_nil)
theorem dI.ok (k:Nat):iV Tryz.prog 110 (dI.m k).s:=okW dI.fE 0 Tryz.f110 k all_nil (fun k=>all_nil) (all_cons ⟨Tryz.func110,by kernel_rfl⟩ all_nil) (all_cons dI.e0 (all_cons dI.e1 all_nil)) (by kernel_rfl) (by kernel_rfl) (fun a=>by kernel_rfl)
noncomputable def fJ.m (k:Nat):Sm:=jd [(.int .i64),(.int .i64)] [.pl (.int .i64),.pl (.int .i64),.pl (.int .i64)] (fun a=>fJ.f k a.1 a.2.1)
noncomputable def fJ.C {γ:Type}:Ctx γ:=mkC (fun k=>mkE [] []) [(70,Tryz.f70)] [(70,mkA [] [] [] [])] [] []
theorem fJ.fE {γ:Type}:(fJ.C (γ:=γ)).Ok:=⟨(all_cons (fun k=>by kernel_rfl) all_nil),(all_cons (by kernel_rfl) all_nil),all_nil⟩
theorem fJ.ok (k:Nat):iV Tryz.prog 70 (fJ.m k).s:=okW fJ.fE 0 Tryz.f70 k all_nil (fun k=>all_nil) (all_cons ⟨Tryz.func70,by kernel_rfl⟩ all_nil) all_nil (by kernel_rfl) (by kernel_rfl) (fun a=>by kernel_rfl)
noncomputable def cmp_isNaN_int.m (k:Nat):Sm:=jd [(.int .i64)] [.pl .bool] (fun a=>cmp_isNaN_int.f k a.1)
noncomputable def cmp_isNaN_int.C {γ:Type}:Ctx γ:=mkC (fun k=>mkE [] []) [(172,Tryz.f172)] [(172,mkA [] [] [] [])] [] []
theorem cmp_isNaN_int.fE {γ:Type}:(cmp_isNaN_int.C (γ:=γ)).Ok:=⟨(all_cons (fun k=>by kernel_rfl) all_nil),(all_cons (by kernel_rfl) all_nil),all_nil⟩
theorem cmp_isNaN_int.ok (k:Nat):iV Tryz.prog 172 (cmp_isNaN_int.m k).s:=okW cmp_isNaN_int.fE 0 Tryz.f172 k all_nil (fun k=>all_nil) (all_cons ⟨Tryz.func172,by kernel_rfl⟩ all_nil) all_nil (by kernel_rfl) (by kernel_rfl) (fun a=>by kernel_rfl)
noncomputable def cmp_Compare_int.m (k:Nat):Sm:=jd [(.int .i64),(.int .i64)] [.pl (.int .i64)] (fun a=>cmp_Compare_int.f k a.1 a.2.1)
noncomputable def cmp_Compare_int.C {γ:Type}:Ctx γ:=mkC (fun k=>mkE [(172,cmp_isNaN_int.m k)] []) [(142,Tryz.f142)] [(142,mkA [] [] [] [])] [] []
theorem cmp_Compare_int.fE {γ:Type}:(cmp_Compare_int.C (γ:=γ)).Ok:=⟨(all_cons (fun k=>by kernel_rfl) all_nil),(all_cons (by kernel_rfl) all_nil),all_nil⟩
theorem cmp_Compare_int.ok (k:Nat):iV Tryz.prog 142 (cmp_Compare_int.m k).s:=okW cmp_Compare_int.fE 0 Tryz.f142 k all_nil (fun k=>all_cons (cmp_isNaN_int.ok k) (all_nil)) (all_cons ⟨Tryz.func142,by kernel_rfl⟩ all_nil) all_nil (by kernel_rfl) (by kernel_rfl) (fun a=>by kernel_rfl)
noncomputable def iE.m (k:Nat):Sm:=jd [.gr,(.int .i64)] [.pl (.int .i64)] (fun a=>iE.f k a.1.f0 a.1.f1 a.2.1)
noncomputable def iE.C {γ:Type}:Ctx γ:=mkC (fun k=>mkE [(142,cmp_Compare_int.m k)] []) [(141,Tryz.f141)] [(141,mkA [] [] [] [])] [] []
theorem iE.fE {γ:Type}:(iE.C (γ:=γ)).Ok:=⟨(all_cons (fun k=>by kernel_rfl) all_nil),(all_cons (by kernel_rfl) all_nil),all_nil⟩
theorem iE.ok (k:Nat):iV Tryz.prog 141 (iE.m k).s:=okW iE.fE 0 Tryz.f141 k all_nil (fun k=>all_cons (cmp_Compare_int.ok k) (all_nil)) (all_cons ⟨Tryz.func141,by kernel_rfl⟩ all_nil) all_nil (by kernel_rfl) (by kernel_rfl) (fun a=>by kernel_rfl)
noncomputable def eG.m (k:Nat):Sm:=jd [.fm,(.int .i64)] [.pl (.int .i64),.pl .bool] (fun a=>eG.f k a.1.f0 a.1.f1 a.1.f2 a.1.f3 a.2.1)
noncomputable def eG.l0.p:PS:=⟨[.one (.s .gr),.one (.i .i64),.one (.fn 141 [])]++nOs 5++[.one (.i .i64),.one (.i .i64),.one (.i .i64)]++nOs 38,[.box 25 [.i .i64,.i .i64,.s (.sl 42 .sp),.s .gr]]⟩
noncomputable def eG.l0.c {γ:Type} (YK:HdK γ) (K:dQ→St→Option γ) (c1:List P.S44) (c2:Int) (c3:Int) (c6:Int) (c7:Int) (c8:List (List P.S42)) (c9:List P.S44):=(fun y1=>K (.exit 0) ((⟨[.one (.s .gr),.one (.i .i64),.one (.fn 141 [])]++nOs 5++[.one (.i .i64),.one (.i .i64)]++nOs 39,[.box 25 [.i .i64,.i .i64,.s (.sl 42 .sp),.s .gr]]⟩:PS).mk' [.l .gr c1,.i c2,.i c3,.i y1,.i c6,.i c7,.l (.sl 42 .sp) c8,.l .gr c9]))
noncomputable def eG.l0.g {γ:Type} (YK:HdK γ) (k:Nat) (K:dQ→St→Option γ):List Lf→Option γ
  | [.l .gr c1,.i c2,.i c3,.i v4,.i v5,.i c6,.i c7,.l (.sl 42 .sp) c8,.l .gr c9]=>eG.l0 (eG.l0.c YK K c1 c2 c3 c6 c7 c8 c9) c1 c2 k v4 v5
  | _=>none
noncomputable def eG.C {γ:Type}:Ctx γ:=mkC (fun k=>mkE [(141,iE.m k)] []) [(104,Tryz.f104),(140,Tryz.f140)] [(104,mkA [] [] [] []),(140,mkA [] [(0,[0,1,2,8,9,10])] [(0,[0,1,2,8,9])] [])] [⟨0,140,0,iD [(eG.l0.p,eG.l0.g)]⟩] []
theorem eG.l0.eq {γ:Type} (YK:HdK γ) (rl:Option Nat) (K:dQ→St→Option γ) (c1:List P.S44) (c2:Int) (c3:Int) (c6:Int) (c7:Int) (c8:List (List P.S42)) (c9:List P.S44):∀ k:Nat,(fun (v4:Int) (v5:Int)=>eG.C.lK 0 140 0 Tryz.f140 YK rl 1 k (eG.l0.p.mk' [.l .gr c1,.i c2,.i c3,.i v4,.i v5,.i c6,.i c7,.l (.sl 42 .sp) c8,.l .gr c9]) K)=(fun (v4:Int) (v5:Int)=>eG.l0.g YK k K [.l .gr c1,.i c2,.i c3,.i v4,.i v5,.i c6,.i c7,.l (.sl 42 .sp) c8,.l .gr c9]):=fH (fun R k v4 v5=>eG.l0T (eG.l0.c YK K c1 c2 c3 c6 c7 c8 c9) c1 c2 R k v4 v5) (by kernel_rfl) (fun k=>by kernel_rfl) (fun k=>by kernel_rfl)
theorem eG.fE {γ:Type}:(eG.C (γ:=γ)).Ok:=⟨(all_cons (fun k=>by kernel_rfl) (all_cons (fun k=>by kernel_rfl) all_nil)),(all_cons (by kernel_rfl) (all_cons (by kernel_rfl) all_nil)),all_nil⟩
theorem eG.e0 {γ:Type}:gu (eG.C (γ:=γ)) ⟨0,140,0,iD [(eG.l0.p,eG.l0.g)]⟩:=eG.fE.jT Tryz.f140 [] (by kernel_rfl) (by kernel_rfl) (by kernel_rfl) (all_cons iF all_nil) (all_cons (fun YK rl k ls K v hv=>(show eG.l0.g YK k K ls=some v→_ from fun hv=>by
  unfold eG.l0.g at hv;split at hv
  · exact (congrFun (congrFun (eG.l0.eq YK rl K _ _ _ _ _ _ _ k) _) _).trans hv
  · cases hv) hv) all_nil)
theorem eG.ok (k:Nat):iV Tryz.prog 104 (eG.m k).s:=okW eG.fE 1 Tryz.f104 k all_nil (fun k=>all_cons (iE.ok k) (all_nil)) (all_cons ⟨Tryz.func104,by kernel_rfl⟩ (all_cons ⟨Tryz.func140,by kernel_rfl⟩ all_nil)) (all_cons eG.e0 all_nil) (by kernel_rfl) (by kernel_rfl) (fun a=>by kernel_rfl)
noncomputable def bits_Mul64.m (k:Nat):Sm:=jd [(.int .u64),(.int .u64)] [.pl (.int .u64),.pl (.int .u64)] (fun a=>bits_Mul64.f k a.1 a.2.1)
noncomputable def bits_Mul64.C {γ:Type}:Ctx γ:=mkC (fun k=>mkE [] []) [(143,Tryz.f143)] [(143,mkA [] [] [] [])] [] []
theorem bits_Mul64.fE {γ:Type}:(bits_Mul64.C (γ:=γ)).Ok:=⟨(all_cons (fun k=>by kernel_rfl) all_nil),(all_cons (by kernel_rfl) all_nil),all_nil⟩
theorem bits_Mul64.ok (k:Nat):iV Tryz.prog 143 (bits_Mul64.m k).s:=okW bits_Mul64.fE 0 Tryz.f143 k all_nil (fun k=>all_nil) (all_cons ⟨Tryz.func143,by kernel_rfl⟩ all_nil) all_nil (by kernel_rfl) (by kernel_rfl) (fun a=>by kernel_rfl)
noncomputable def gy.m (k:Nat):Sm:=jd [(.int .i64)] [.pl (.int .u64)] (fun a=>gy.f k a.1)
noncomputable def gy.C {γ:Type}:Ctx γ:=mkC (fun k=>mkE [] []) [(144,Tryz.f144)] [(144,mkA [] [] [] [])] [] []
theorem gy.fE {γ:Type}:(gy.C (γ:=γ)).Ok:=⟨(all_cons (fun k=>by kernel_rfl) all_nil),(all_cons (by kernel_rfl) all_nil),all_nil⟩
theorem gy.ok (k:Nat):iV Tryz.prog 144 (gy.m k).s:=okW gy.fE 0 Tryz.f144 k all_nil (fun k=>all_nil) (all_cons ⟨Tryz.func144,by kernel_rfl⟩ all_nil) all_nil (by kernel_rfl) (by kernel_rfl) (fun a=>by kernel_rfl)
noncomputable def fZ.m (k:Nat):Sm:=jd [(.int .u64),.bool] [.pl (.int .i64),.pl (.int .i64)] (fun a=>fZ.f k a.1 a.2.1)
noncomputable def fZ.C {γ:Type}:Ctx γ:=mkC (fun k=>mkE [] []) [(145,Tryz.f145)] [(145,mkA [] [] [] [])] [] []
theorem fZ.fE {γ:Type}:(fZ.C (γ:=γ)).Ok:=⟨(all_cons (fun k=>by kernel_rfl) all_nil),(all_cons (by kernel_rfl) all_nil),all_nil⟩
theorem fZ.ok (k:Nat):iV Tryz.prog 145 (fZ.m k).s:=okW fZ.fE 0 Tryz.f145 k all_nil (fun k=>all_nil) (all_cons ⟨Tryz.func145,by kernel_rfl⟩ all_nil) all_nil (by kernel_rfl) (by kernel_rfl) (fun a=>by kernel_rfl)
noncomputable def gN.m (k:Nat):Sm:=jd [(.int .i64),(.int .i64)] [.pl (.int .i64),.pl (.int .i64)] (fun a=>gN.f k a.1 a.2.1)
noncomputable def gN.C {γ:Type}:Ctx γ:=mkC (fun k=>mkE [(143,bits_Mul64.m k),(144,gy.m k),(145,fZ.m k)] []) [(105,Tryz.f105)] [(105,mkA [] [] [] [])] [] []
theorem gN.fE {γ:Type}:(gN.C (γ:=γ)).Ok:=⟨(all_cons (fun k=>by kernel_rfl) all_nil),(all_cons (by kernel_rfl) all_nil),all_nil⟩
theorem gN.ok (k:Nat):iV Tryz.prog 105 (gN.m k).s:=okW gN.fE 0 Tryz.f105 k all_nil (fun k=>all_cons (bits_Mul64.ok k) (all_cons (gy.ok k) (all_cons (fZ.ok k) (all_nil)))) (all_cons ⟨Tryz.func105,by kernel_rfl⟩ all_nil) all_nil (by kernel_rfl) (by kernel_rfl) (fun a=>by kernel_rfl)
noncomputable def iG.m (k:Nat):Sm:=jd [.fm,(.int .i64)] [.pl (.sl 42 .sp),.pl (.int .i64),.pl (.int .i64)] (fun a=>iG.f k a.1.f0 a.1.f1 a.1.f2 a.1.f3 a.2.1)
noncomputable def iG.C {γ:Type}:Ctx γ:=mkC (fun k=>mkE [(70,fJ.m k),(104,eG.m k),(105,gN.m k)] []) [(54,Tryz.f54)] [(54,mkA [] [] [] [])] [] []
theorem iG.fE {γ:Type}:(iG.C (γ:=γ)).Ok:=⟨(all_cons (fun k=>by kernel_rfl) all_nil),(all_cons (by kernel_rfl) all_nil),all_nil⟩
theorem iG.ok (k:Nat):iV Tryz.prog 54 (iG.m k).s:=okW iG.fE 0 Tryz.f54 k all_nil (fun k=>all_cons (fJ.ok k) (all_cons (eG.ok k) (all_cons (gN.ok k) (all_nil)))) (all_cons ⟨Tryz.func54,by kernel_rfl⟩ all_nil) all_nil (by kernel_rfl) (by kernel_rfl) (fun a=>by kernel_rfl)
noncomputable def iP.m (k:Nat):Sm:=jd [(.int .i64),(.int .i64)] [.pl (.int .i64),.pl (.int .i64)] (fun a=>iP.f k a.1 a.2.1)
noncomputable def iP.C {γ:Type}:Ctx γ:=mkC (fun k=>mkE [] []) [(106,Tryz.f106)] [(106,mkA [] [] [] [])] [] []
theorem iP.fE {γ:Type}:(iP.C (γ:=γ)).Ok:=⟨(all_cons (fun k=>by kernel_rfl) all_nil),(all_cons (by kernel_rfl) all_nil),all_nil⟩
theorem iP.ok (k:Nat):iV Tryz.prog 106 (iP.m k).s:=okW iP.fE 0 Tryz.f106 k all_nil (fun k=>all_nil) (all_cons ⟨Tryz.func106,by kernel_rfl⟩ all_nil) all_nil (by kernel_rfl) (by kernel_rfl) (fun a=>by kernel_rfl)
noncomputable def dY.m (k:Nat):Sm:=jd [(.sl 42 .sp),(.int .i64)] [.own 42 .sp,.pl (.int .i64)] (fun a=>dY.f k a.1 a.2.1)
noncomputable def dY.l0.p:PS:=⟨[nO,.one (.i .i64)]++nOs 4++[.one (.o 42 .sp)]++nOs 6++[.one (.s .sp),.one (.i .i64),.one (.i .i64)]++nOs 41,[]⟩
noncomputable def dY.l0.c {γ:Type} (YK:HdK γ) (K:dQ→St→Option γ)  := ((fun y1=>K .ret ((⟨nOs 4++[.one (.lo 42 .sp),.one (.li .i64 20),.one (.o 42 .sp)]++nOs 50,[]⟩:PS).mk' [.l .sp y1])),(fun y1=>K (.exit 0) ((⟨nOs 6++[.one (.o 42 .sp)]++nOs 50,[]⟩:PS).mk' [.l .sp y1])))
noncomputable def dY.l0.g {γ:Type} (YK:HdK γ) (k:Nat) (K:dQ→St→Option γ):List Lf→Option γ
  | [.i c1,.l .sp v2,.l .sp c3,.i c4,.i v5]=>let q:=dY.l0.c YK K;dY.l0 q.1 q.2 c1 c3 c4 k v2 v5
  | _=>none
noncomputable def dY.C {γ:Type}:Ctx γ:=mkC (fun k=>mkE [(106,iP.m k),(107,gq.m k)] []) [(55,Tryz.f55)] [(55,mkA [49,56] [(0,[1,6,13,14,15])] [(0,[4,5,6])] [])] [⟨0,55,0,iD [(dY.l0.p,dY.l0.g)]⟩] []
theorem dY.l0.eq {γ:Type} (YK:HdK γ) (rl:Option Nat) (K:dQ→St→Option γ) (c1:Int) (c3:List P.S42) (c4:Int):∀ k:Nat,(fun (v2:List P.S42) (v5:Int)=>dY.C.lK 0 55 0 Tryz.f55 YK rl 0 k (dY.l0.p.mk' [.i c1,.l .sp v2,.l .sp c3,.i c4,.i v5]) K)=(fun (v2:List P.S42) (v5:Int)=>dY.l0.g YK k K [.i c1,.l .sp v2,.l .sp c3,.i c4,.i v5]):=fH (fun R k v2 v5=>dY.l0T (dY.l0.c YK K).1 (dY.l0.c YK K).2 c1 c3 c4 R k v2 v5) (by kernel_rfl) (fun k=>by kernel_rfl) (fun k=>by kernel_rfl)
theorem dY.fE {γ:Type}:(dY.C (γ:=γ)).Ok:=⟨(all_cons (fun k=>by kernel_rfl) all_nil),(all_cons (by kernel_rfl) all_nil),all_nil⟩
theorem dY.e0 {γ:Type}:gu (dY.C (γ:=γ)) ⟨0,55,0,iD [(dY.l0.p,dY.l0.g)]⟩:=dY.fE.jT Tryz.f55 [] (by kernel_rfl) (by kernel_rfl) (by kernel_rfl) (all_cons iF all_nil) (all_cons (fun YK rl k ls K v hv=>(show dY.l0.g YK k K ls=some v→_ from fun hv=>by
  unfold dY.l0.g at hv;split at hv
  · exact (congrFun (congrFun (dY.l0.eq YK rl K _ _ _ k) _) _).trans hv
  · cases hv) hv) all_nil)
theorem dY.ok (k:Nat):iV Tryz.prog 55 (dY.m k).s:=okW dY.fE 0 Tryz.f55 k all_nil (fun k=>all_cons (iP.ok k) (all_cons (gq.ok k) (all_nil))) (all_cons ⟨Tryz.func55,by kernel_rfl⟩ all_nil) (all_cons dY.e0 all_nil) (by kernel_rfl) (by kernel_rfl) (fun a=>by kernel_rfl)
noncomputable def fU.m (k:Nat):Sm:=jd [.fm,(.int .i64)] [.own 42 .sp,.pl (.int .i64)] (fun a=>fU.f k a.1.f0 a.1.f1 a.1.f2 a.1.f3 a.2.1)
noncomputable def fU.C {γ:Type}:Ctx γ:=mkC (fun k=>mkE [(53,fI.m k),(54,iG.m k),(55,dY.m k)] []) [(19,Tryz.f19)] [(19,mkA [27] [] [] [])] [] []
theorem fU.fE {γ:Type}:(fU.C (γ:=γ)).Ok:=⟨(all_cons (fun k=>by kernel_rfl) all_nil),(all_cons (by kernel_rfl) all_nil),all_nil⟩
theorem fU.ok (k:Nat):iV Tryz.prog 19 (fU.m k).s:=okW fU.fE 0 Tryz.f19 k all_nil (fun k=>all_cons (fI.ok k) (all_cons (iG.ok k) (all_cons (dY.ok k) (all_nil)))) (all_cons ⟨Tryz.func19,by kernel_rfl⟩ all_nil) all_nil (by kernel_rfl) (by kernel_rfl) (fun a=>by kernel_rfl)
noncomputable def gZ.m (k:Nat):Sm:=jd [(.sl 42 .sp)] [.pl .bool] (fun a=>gZ.f k a.1)
noncomputable def gZ.C {γ:Type}:Ctx γ:=mkC (fun k=>mkE [] []) [(182,Tryz.f182)] [(182,mkA [] [] [] [])] [] []
theorem gZ.fE {γ:Type}:(gZ.C (γ:=γ)).Ok:=⟨(all_cons (fun k=>by kernel_rfl) all_nil),(all_cons (by kernel_rfl) all_nil),all_nil⟩
theorem gZ.ok (k:Nat):iV Tryz.prog 182 (gZ.m k).s:=okW gZ.fE 0 Tryz.f182 k all_nil (fun k=>all_nil) (all_cons ⟨Tryz.func182,by kernel_rfl⟩ all_nil) all_nil (by kernel_rfl) (by kernel_rfl) (fun a=>by kernel_rfl)
noncomputable def eB.m (k:Nat):Sm:=jd [.fm] [.pl .bool] (fun a=>eB.f k a.1.f0 a.1.f1 a.1.f2 a.1.f3)
noncomputable def eB.l0.p:PS:=⟨[.one (.s (.sl 42 .sp)),.one (.fn 182 [])]++nOs 5++[.one (.i .i64),.one (.i .i64)]++nOs 10,[.box 25 [.i .i64,.i .i64,.s (.sl 42 .sp),.s .gr]]⟩
noncomputable def eB.l0.c {γ:Type} (YK:HdK γ) (K:dQ→St→Option γ) (c4:Int) (c5:Int) (c6:List (List P.S42)) (c7:List P.S44):=((fun y1=>K .ret ((⟨nOs 4++[.one (.i .i64)]++nOs 14,[.box 25 [.i .i64,.i .i64,.s (.sl 42 .sp),.s .gr]]⟩:PS).mk' [.i y1,.i c4,.i c5,.l (.sl 42 .sp) c6,.l .gr c7])),(K (.exit 0) ((⟨nOs 19,[.box 25 [.i .i64,.i .i64,.s (.sl 42 .sp),.s .gr]]⟩:PS).mk' [.i c4,.i c5,.l (.sl 42 .sp) c6,.l .gr c7])))
noncomputable def eB.l0.g {γ:Type} (YK:HdK γ) (k:Nat) (K:dQ→St→Option γ):List Lf→Option γ
  | [.l (.sl 42 .sp) c1,.i c2,.i v3,.i c4,.i c5,.l (.sl 42 .sp) c6,.l .gr c7]=>let q:=eB.l0.c YK K c4 c5 c6 c7;eB.l0 q.1 q.2 c1 c2 k v3
  | _=>none
noncomputable def eB.C {γ:Type}:Ctx γ:=mkC (fun k=>mkE [(182,gZ.m k)] []) [(179,Tryz.f179),(112,Tryz.f112),(150,Tryz.f150)] [(179,mkA [] [] [] []),(112,mkA [] [] [] []),(150,mkA [] [(0,[0,1,7,8])] [(0,[4])] [])] [⟨0,150,0,iD [(eB.l0.p,eB.l0.g)]⟩] []
theorem eB.l0.eq {γ:Type} (YK:HdK γ) (rl:Option Nat) (K:dQ→St→Option γ) (c1:List (List P.S42)) (c2:Int) (c4:Int) (c5:Int) (c6:List (List P.S42)) (c7:List P.S44):∀ k:Nat,(fun (v3:Int)=>eB.C.lK 0 150 0 Tryz.f150 YK rl 1 k (eB.l0.p.mk' [.l (.sl 42 .sp) c1,.i c2,.i v3,.i c4,.i c5,.l (.sl 42 .sp) c6,.l .gr c7]) K)=(fun (v3:Int)=>eB.l0.g YK k K [.l (.sl 42 .sp) c1,.i c2,.i v3,.i c4,.i c5,.l (.sl 42 .sp) c6,.l .gr c7]):=fH (fun R k v3=>eB.l0T (eB.l0.c YK K c4 c5 c6 c7).1 (eB.l0.c YK K c4 c5 c6 c7).2 c1 c2 R k v3) (by kernel_rfl) (fun k=>by kernel_rfl) (fun k=>by kernel_rfl)
theorem eB.fE {γ:Type}:(eB.C (γ:=γ)).Ok:=⟨(all_cons (fun k=>by kernel_rfl) (all_cons (fun k=>by kernel_rfl) (all_cons (fun k=>by kernel_rfl) all_nil))),(all_cons (by kernel_rfl) (all_cons (by kernel_rfl) (all_cons (by kernel_rfl) all_nil))),all_nil⟩
theorem eB.e0 {γ:Type}:gu (eB.C (γ:=γ)) ⟨0,150,0,iD [(eB.l0.p,eB.l0.g)]⟩:=eB.fE.jT Tryz.f150 [] (by kernel_rfl) (by kernel_rfl) (by kernel_rfl) (all_cons iF all_nil) (all_cons (fun YK rl k ls K v hv=>(show eB.l0.g YK k K ls=some v→_ from fun hv=>by
  unfold eB.l0.g at hv;split at hv
  · exact (congrFun (eB.l0.eq YK rl K _ _ _ _ _ _ k) _).trans hv
  · cases hv) hv) all_nil)
theorem eB.ok (k:Nat):iV Tryz.prog 179 (eB.m k).s:=okW eB.fE 2 Tryz.f179 k all_nil (fun k=>all_cons (gZ.ok k) (all_nil)) (all_cons ⟨Tryz.func179,by kernel_rfl⟩ (all_cons ⟨Tryz.func112,by kernel_rfl⟩ (all_cons ⟨Tryz.func150,by kernel_rfl⟩ all_nil))) (all_cons eB.e0 all_nil) (by kernel_rfl) (by kernel_rfl) (fun a=>by kernel_rfl)
noncomputable def iR.m (k:Nat):Sm:=jd [.fm,(.int .i64)] [.pl .bool] (fun a=>iR.f k a.1.f0 a.1.f1 a.1.f2 a.1.f3 a.2.1)
noncomputable def iR.C {γ:Type}:Ctx γ:=mkC (fun k=>mkE [(54,iG.m k)] []) [(180,Tryz.f180)] [(180,mkA [] [] [] [])] [] []
theorem iR.fE {γ:Type}:(iR.C (γ:=γ)).Ok:=⟨(all_cons (fun k=>by kernel_rfl) all_nil),(all_cons (by kernel_rfl) all_nil),all_nil⟩
theorem iR.ok (k:Nat):iV Tryz.prog 180 (iR.m k).s:=okW iR.fE 0 Tryz.f180 k all_nil (fun k=>all_cons (iG.ok k) (all_nil)) (all_cons ⟨Tryz.func180,by kernel_rfl⟩ all_nil) all_nil (by kernel_rfl) (by kernel_rfl) (fun a=>by kernel_rfl)
end Go.Proofs.YtcomnjodjijcmaaGreat.R
namespace Go.Proofs.YtcomnjodjijcmaaGreat.R
open M Go.RowKit Go.Proofs.YtcomnjodjijcmaaGreatW.dz Go.Proofs.YtcomnjodjijcmaaGreatW.dX Go.Proofs.YtcomnjodjijcmaaGreatW.eD
set_option linter.unusedVariables false
noncomputable def dD.m (k:Nat):Sm:=jd [.fm,(.int .i64),(.int .i64)] [.pl (.int .i64),.pl .bool] (fun a=>dD.f k a.1.f0 a.1.f1 a.1.f2 a.1.f3 a.2.1 a.2.2.1)
noncomputable def dD.l1.p:PS:=⟨[nO,nO,.one (.i .i64),.one (.bp 0 0)]++nOs 4++[.one (.i .i64)]++nOs 54,[.box 25 [.i .i64,.i .i64,.s (.sl 42 .sp),.s .gr]]⟩
noncomputable def dD.l1.c {γ:Type} (YK:HdK γ) (K:dQ→St→Option γ) (c3:Int) (c4:Int) (c5:List (List P.S42)) (c6:List P.S44):=((fun y1=>K .ret ((⟨nOs 6++[.one (.i .i64),.one (.lb true)]++nOs 55,[.box 25 [.i .i64,.i .i64,.s (.sl 42 .sp),.s .gr]]⟩:PS).mk' [.i y1,.i c3,.i c4,.l (.sl 42 .sp) c5,.l .gr c6])),(K (.exit 0) ((⟨nOs 63,[.box 25 [.i .i64,.i .i64,.s (.sl 42 .sp),.s .gr]]⟩:PS).mk' [.i c3,.i c4,.l (.sl 42 .sp) c5,.l .gr c6])))
noncomputable def dD.l1.g {γ:Type} (YK:HdK γ) (k:Nat) (K:dQ→St→Option γ):List Lf→Option γ
  | [.i c1,.i v2,.i c3,.i c4,.l (.sl 42 .sp) c5,.l .gr c6]=>let q:=dD.l1.c YK K c3 c4 c5 c6;dD.l1 q.1 q.2 c1 c6 k v2
  | _=>none
noncomputable def dD.l0.p:PS:=⟨[nO,nO,.one (.i .i64),.one (.bp 0 0)]++nOs 4++[.one (.i .i64)]++nOs 54,[.box 25 [.i .i64,.i .i64,.s (.sl 42 .sp),.s .gr]]⟩
noncomputable def dD.l0.c {γ:Type} (YK:HdK γ) (K:dQ→St→Option γ)  := ((fun y1 y2 y3 y4 y5=>K .ret ((⟨nOs 6++[.one (.i .i64),.one (.lb true)]++nOs 55,[.box 25 [.i .i64,.i .i64,.s (.sl 42 .sp),.s .gr]]⟩:PS).mk' [.i y1,.i y2,.i y3,.l (.sl 42 .sp) y4,.l .gr y5])),(fun y1 y2 y3 y4=>K .ret ((⟨nOs 6++[.one (.li .i64 0),.one (.lb false)]++nOs 55,[.box 25 [.i .i64,.i .i64,.s (.sl 42 .sp),.s .gr]]⟩:PS).mk' [.i y1,.i y2,.l (.sl 42 .sp) y3,.l .gr y4])))
noncomputable def dD.l0.g {γ:Type} (YK:HdK γ) (k:Nat) (K:dQ→St→Option γ):List Lf→Option γ
  | [.i v1,.i v2,.i v3,.i v4,.l (.sl 42 .sp) v5,.l .gr v6]=>let q:=dD.l0.c YK K;dD.l0 q.1 q.2 k v1 v2 v3 v4 v5 v6
  | _=>none
noncomputable def dD.l2.p:PS:=⟨[nO,nO,.one (.i .i64),.one (.bp 0 0)]++nOs 6++[.one (.i .i64)]++nOs 52,[.box 25 [.i .i64,.i .i64,.s (.sl 42 .sp),.s .gr]]⟩
noncomputable def dD.l2.c {γ:Type} (YK:HdK γ) (K:dQ→St→Option γ) (c3:Int) (c4:Int) (c5:List (List P.S42)) (c6:List P.S44):=((fun y1=>K .ret ((⟨nOs 6++[.one (.i .i64),.one (.lb true)]++nOs 55,[.box 25 [.i .i64,.i .i64,.s (.sl 42 .sp),.s .gr]]⟩:PS).mk' [.i y1,.i c3,.i c4,.l (.sl 42 .sp) c5,.l .gr c6])),(K (.exit 2) ((⟨nOs 63,[.box 25 [.i .i64,.i .i64,.s (.sl 42 .sp),.s .gr]]⟩:PS).mk' [.i c3,.i c4,.l (.sl 42 .sp) c5,.l .gr c6])))
noncomputable def dD.l2.g {γ:Type} (YK:HdK γ) (k:Nat) (K:dQ→St→Option γ):List Lf→Option γ
  | [.i c1,.i v2,.i c3,.i c4,.l (.sl 42 .sp) c5,.l .gr c6]=>let q:=dD.l2.c YK K c3 c4 c5 c6;dD.l2 q.1 q.2 c1 c3 c4 c5 c6 k v2
  | _=>none
noncomputable def dD.C {γ:Type}:Ctx γ:=mkC (fun k=>mkE [(53,fI.m k),(104,eG.m k),(179,eB.m k),(180,iR.m k)] []) [(173,Tryz.f173)] [(173,mkA [] [(0,[2,3,8]),(2,[2,3,10]),(1000002,[2,3,8])] [(0,[6,7]),(2,[6,7]),(1000002,[1,2,3,6,7])] [])] [⟨0,173,0,iD [(dD.l1.p,dD.l1.g)]⟩,⟨0,173,1000002,iD [(dD.l0.p,dD.l0.g)]⟩,⟨0,173,2,iD [(dD.l2.p,dD.l2.g)]⟩] []
theorem dD.l1.eq {γ:Type} (YK:HdK γ) (rl:Option Nat) (K:dQ→St→Option γ) (c1:Int) (c3:Int) (c4:Int) (c5:List (List P.S42)) (c6:List P.S44):∀ k:Nat,(fun (v2:Int)=>dD.C.lK 0 173 0 Tryz.f173 YK rl 1 k (dD.l1.p.mk' [.i c1,.i v2,.i c3,.i c4,.l (.sl 42 .sp) c5,.l .gr c6]) K)=(fun (v2:Int)=>dD.l1.g YK k K [.i c1,.i v2,.i c3,.i c4,.l (.sl 42 .sp) c5,.l .gr c6]):=fH (fun R k v2=>dD.l1T (dD.l1.c YK K c3 c4 c5 c6).1 (dD.l1.c YK K c3 c4 c5 c6).2 c1 c6 R k v2) (by kernel_rfl) (fun k=>by kernel_rfl) (fun k=>by kernel_rfl)
theorem dD.l0.eq {γ:Type} (YK:HdK γ) (rl:Option Nat) (K:dQ→St→Option γ) (k:Nat) (v1:Int) (v2:Int) (v3:Int) (v4:Int) (v5:List (List P.S42)) (v6:List P.S44):dD.C.lK 0 173 1000002 Tryz.f173 YK rl 1 k (dD.l0.p.mk' [.i v1,.i v2,.i v3,.i v4,.l (.sl 42 .sp) v5,.l .gr v6]) K=dD.l0.g YK k K [.i v1,.i v2,.i v3,.i v4,.l (.sl 42 .sp) v5,.l .gr v6]:=by kernel_rfl
theorem dD.l2.eq {γ:Type} (YK:HdK γ) (rl:Option Nat) (K:dQ→St→Option γ) (c1:Int) (c3:Int) (c4:Int) (c5:List (List P.S42)) (c6:List P.S44):∀ k:Nat,(fun (v2:Int)=>dD.C.lK 0 173 2 Tryz.f173 YK rl 1 k (dD.l2.p.mk' [.i c1,.i v2,.i c3,.i c4,.l (.sl 42 .sp) c5,.l .gr c6]) K)=(fun (v2:Int)=>dD.l2.g YK k K [.i c1,.i v2,.i c3,.i c4,.l (.sl 42 .sp) c5,.l .gr c6]):=fH (fun R k v2=>dD.l2T (dD.l2.c YK K c3 c4 c5 c6).1 (dD.l2.c YK K c3 c4 c5 c6).2 c1 c3 c4 c5 c6 R k v2) (by kernel_rfl) (fun k=>by kernel_rfl) (fun k=>by kernel_rfl)
theorem dD.fE {γ:Type}:(dD.C (γ:=γ)).Ok:=⟨(all_cons (fun k=>by kernel_rfl) all_nil),(all_cons (by kernel_rfl) all_nil),all_nil⟩
theorem dD.e0 {γ:Type}:gu (dD.C (γ:=γ)) ⟨0,173,0,iD [(dD.l1.p,dD.l1.g)]⟩:=dD.fE.jT Tryz.f173 [] (by kernel_rfl) (by kernel_rfl) (by kernel_rfl) (all_cons iF (all_cons iF (all_cons iF all_nil))) (all_cons (fun YK rl k ls K v hv=>(show dD.l1.g YK k K ls=some v→_ from fun hv=>by
  unfold dD.l1.g at hv;split at hv
  · exact (congrFun (dD.l1.eq YK rl K _ _ _ _ _ k) _).trans hv
  · cases hv) hv) all_nil)
theorem dD.e1 {γ:Type}:gu (dD.C (γ:=γ)) ⟨0,173,1000002,iD [(dD.l0.p,dD.l0.g)]⟩:=dD.fE.jT Tryz.f173 [0] (by kernel_rfl) (by kernel_rfl) (by kernel_rfl) (all_cons (fun _=>dD.e0) (all_cons iF (all_cons iF all_nil))) (all_cons (fun YK rl k ls K v hv=>(show dD.l0.g YK k K ls=some v→_ from fun hv=>by
  unfold dD.l0.g at hv;split at hv
  · exact (dD.l0.eq YK rl K k _ _ _ _ _ _).trans hv
  · cases hv) hv) all_nil)
theorem dD.e2 {γ:Type}:gu (dD.C (γ:=γ)) ⟨0,173,2,iD [(dD.l2.p,dD.l2.g)]⟩:=dD.fE.jT Tryz.f173 [] (by kernel_rfl) (by kernel_rfl) (by kernel_rfl) (all_cons iF (all_cons iF (all_cons iF all_nil))) (all_cons (fun YK rl k ls K v hv=>(show dD.l2.g YK k K ls=some v→_ from fun hv=>by
  unfold dD.l2.g at hv;split at hv
  · exact (congrFun (dD.l2.eq YK rl K _ _ _ _ _ k) _).trans hv
  · cases hv) hv) all_nil)
theorem dD.ok (k:Nat):iV Tryz.prog 173 (dD.m k).s:=okW dD.fE 0 Tryz.f173 k all_nil (fun k=>all_cons (fI.ok k) (all_cons (eG.ok k) (all_cons (eB.ok k) (all_cons (iR.ok k) (all_nil))))) (all_cons ⟨Tryz.func173,by kernel_rfl⟩ all_nil) (all_cons dD.e0 (all_cons dD.e1 (all_cons dD.e2 all_nil))) (by kernel_rfl) (by kernel_rfl) (fun a=>by kernel_rfl)
noncomputable def iq.m (k:Nat):Sm:=jd [.fm,(.int .i64)] [.pl (.int .i64),.pl .bool] (fun a=>iq.f k a.1.f0 a.1.f1 a.1.f2 a.1.f3 a.2.1)
noncomputable def iq.C {γ:Type}:Ctx γ:=mkC (fun k=>mkE [(173,dD.m k)] []) [(147,Tryz.f147)] [(147,mkA [] [] [] [])] [] []
theorem iq.fE {γ:Type}:(iq.C (γ:=γ)).Ok:=⟨(all_cons (fun k=>by kernel_rfl) all_nil),(all_cons (by kernel_rfl) all_nil),all_nil⟩
theorem iq.ok (k:Nat):iV Tryz.prog 147 (iq.m k).s:=okW iq.fE 0 Tryz.f147 k all_nil (fun k=>all_cons (dD.ok k) (all_nil)) (all_cons ⟨Tryz.func147,by kernel_rfl⟩ all_nil) all_nil (by kernel_rfl) (by kernel_rfl) (fun a=>by kernel_rfl)
noncomputable def iw.m (k:Nat):Sm:=jd [.fm,(.int .i64)] [.pl (.int .i64),.pl .bool] (fun a=>iw.f k a.1.f0 a.1.f1 a.1.f2 a.1.f3 a.2.1)
noncomputable def iw.C {γ:Type}:Ctx γ:=mkC (fun k=>mkE [(173,dD.m k)] []) [(148,Tryz.f148)] [(148,mkA [] [] [] [])] [] []
theorem iw.fE {γ:Type}:(iw.C (γ:=γ)).Ok:=⟨(all_cons (fun k=>by kernel_rfl) all_nil),(all_cons (by kernel_rfl) all_nil),all_nil⟩
theorem iw.ok (k:Nat):iV Tryz.prog 148 (iw.m k).s:=okW iw.fE 0 Tryz.f148 k all_nil (fun k=>all_cons (dD.ok k) (all_nil)) (all_cons ⟨Tryz.func148,by kernel_rfl⟩ all_nil) all_nil (by kernel_rfl) (by kernel_rfl) (fun a=>by kernel_rfl)
noncomputable def eH.m (k:Nat):Sm:=jd [(.sl 42 .sp),(.sl 42 .sp)] [.pl .bool] (fun a=>eH.f k a.1 a.2.1)
noncomputable def eH.C {γ:Type}:Ctx γ:=mkC (fun k=>mkE [] []) [(149,Tryz.f149)] [(149,mkA [] [] [] [])] [] []
theorem eH.fE {γ:Type}:(eH.C (γ:=γ)).Ok:=⟨(all_cons (fun k=>by kernel_rfl) all_nil),(all_cons (by kernel_rfl) all_nil),all_nil⟩
theorem eH.ok (k:Nat):iV Tryz.prog 149 (eH.m k).s:=okW eH.fE 0 Tryz.f149 k all_nil (fun k=>all_nil) (all_cons ⟨Tryz.func149,by kernel_rfl⟩ all_nil) all_nil (by kernel_rfl) (by kernel_rfl) (fun a=>by kernel_rfl)
noncomputable def iy.m (k:Nat):Sm:=jd [.fm,(.int .i64)] [.pl .bool] (fun a=>iy.f k a.1.f0 a.1.f1 a.1.f2 a.1.f3 a.2.1)
noncomputable def iy.C {γ:Type}:Ctx γ:=mkC (fun k=>mkE [(19,fU.m k),(147,iq.m k),(148,iw.m k),(149,eH.m k)] []) [(111,Tryz.f111)] [(111,mkA [] [] [] [])] [] []
theorem iy.fE {γ:Type}:(iy.C (γ:=γ)).Ok:=⟨(all_cons (fun k=>by kernel_rfl) all_nil),(all_cons (by kernel_rfl) all_nil),all_nil⟩
theorem iy.ok (k:Nat):iV Tryz.prog 111 (iy.m k).s:=okW iy.fE 0 Tryz.f111 k all_nil (fun k=>all_cons (fU.ok k) (all_cons (iq.ok k) (all_cons (iw.ok k) (all_cons (eH.ok k) (all_nil))))) (all_cons ⟨Tryz.func111,by kernel_rfl⟩ all_nil) all_nil (by kernel_rfl) (by kernel_rfl) (fun a=>by kernel_rfl)
noncomputable def dH.m (k:Nat):Sm:=jd [.fm] [.pl (.int .i64)] (fun a=>dH.f k a.1.f0 a.1.f1 a.1.f2 a.1.f3)
noncomputable def dH.l1.p:PS:=⟨[nO,.one (.bp 0 0)]++nOs 27++[.one (.s .gr),.one (.i .i64),.one (.i .i64)]++nOs 9,[.box 25 [.i .i64,.i .i64,.s (.sl 42 .sp),.s .gr]]⟩
noncomputable def dH.l1.c {γ:Type} (YK:HdK γ) (K:dQ→St→Option γ) (c4:Int) (c5:Int) (c6:List (List P.S42)) (c7:List P.S44):=((K .ret ((⟨[nO,nO,.one (.li .i64 50)]++nOs 38,[.box 25 [.i .i64,.i .i64,.s (.sl 42 .sp),.s .gr]]⟩:PS).mk' [.i c4,.i c5,.l (.sl 42 .sp) c6,.l .gr c7])),(K (.exit 0) ((⟨nOs 41,[.box 25 [.i .i64,.i .i64,.s (.sl 42 .sp),.s .gr]]⟩:PS).mk' [.i c4,.i c5,.l (.sl 42 .sp) c6,.l .gr c7])))
noncomputable def dH.l1.g {γ:Type} (YK:HdK γ) (k:Nat) (K:dQ→St→Option γ):List Lf→Option γ
  | [.l .gr c1,.i c2,.i v3,.i c4,.i c5,.l (.sl 42 .sp) c6,.l .gr c7]=>let q:=dH.l1.c YK K c4 c5 c6 c7;dH.l1 q.1 q.2 c1 c2 c4 c5 c6 c7 k v3
  | _=>none
noncomputable def dH.l0.p:PS:=⟨[nO,.one (.bp 0 0)]++nOs 39,[.box 25 [.i .i64,.i .i64,.s (.sl 42 .sp),.s .gr]]⟩
noncomputable def dH.l0.c {γ:Type} (YK:HdK γ) (K:dQ→St→Option γ)  := ((fun y1 y2 y3 y4=>K .ret ((⟨[nO,nO,.one (.li .i64 50)]++nOs 38,[.box 25 [.i .i64,.i .i64,.s (.sl 42 .sp),.s .gr]]⟩:PS).mk' [.i y1,.i y2,.l (.sl 42 .sp) y3,.l .gr y4])),(fun y1 y2 y3 y4=>K .ret ((⟨[nO,nO,.one (.li .i64 0)]++nOs 38,[.box 25 [.i .i64,.i .i64,.s (.sl 42 .sp),.s .gr]]⟩:PS).mk' [.i y1,.i y2,.l (.sl 42 .sp) y3,.l .gr y4])))
noncomputable def dH.l0.g {γ:Type} (YK:HdK γ) (k:Nat) (K:dQ→St→Option γ):List Lf→Option γ
  | [.i v1,.i v2,.l (.sl 42 .sp) v3,.l .gr v4]=>let q:=dH.l0.c YK K;dH.l0 q.1 q.2 k v1 v2 v3 v4
  | _=>none
noncomputable def dH.C {γ:Type}:Ctx γ:=mkC (fun k=>mkE [(108,dP.m k),(109,dB.m k),(110,dI.m k),(111,iy.m k)] []) [(58,Tryz.f58)] [(58,mkA [] [(0,[1,29,30,31]),(1000010,[1])] [(0,[2]),(1000010,[2])] [])] [⟨0,58,0,iD [(dH.l1.p,dH.l1.g)]⟩,⟨0,58,1000010,iD [(dH.l0.p,dH.l0.g)]⟩] []
theorem dH.l1.eq {γ:Type} (YK:HdK γ) (rl:Option Nat) (K:dQ→St→Option γ) (c1:List P.S44) (c2:Int) (c4:Int) (c5:Int) (c6:List (List P.S42)) (c7:List P.S44):∀ k:Nat,(fun (v3:Int)=>dH.C.lK 0 58 0 Tryz.f58 YK rl 1 k (dH.l1.p.mk' [.l .gr c1,.i c2,.i v3,.i c4,.i c5,.l (.sl 42 .sp) c6,.l .gr c7]) K)=(fun (v3:Int)=>dH.l1.g YK k K [.l .gr c1,.i c2,.i v3,.i c4,.i c5,.l (.sl 42 .sp) c6,.l .gr c7]):=fH (fun R k v3=>dH.l1T (dH.l1.c YK K c4 c5 c6 c7).1 (dH.l1.c YK K c4 c5 c6 c7).2 c1 c2 c4 c5 c6 c7 R k v3) (by kernel_rfl) (fun k=>by kernel_rfl) (fun k=>by kernel_rfl)
theorem dH.l0.eq {γ:Type} (YK:HdK γ) (rl:Option Nat) (K:dQ→St→Option γ) (k:Nat) (v1:Int) (v2:Int) (v3:List (List P.S42)) (v4:List P.S44):dH.C.lK 0 58 1000010 Tryz.f58 YK rl 1 k (dH.l0.p.mk' [.i v1,.i v2,.l (.sl 42 .sp) v3,.l .gr v4]) K=dH.l0.g YK k K [.i v1,.i v2,.l (.sl 42 .sp) v3,.l .gr v4]:=by kernel_rfl
theorem dH.fE {γ:Type}:(dH.C (γ:=γ)).Ok:=⟨(all_cons (fun k=>by kernel_rfl) all_nil),(all_cons (by kernel_rfl) all_nil),all_nil⟩
theorem dH.e0 {γ:Type}:gu (dH.C (γ:=γ)) ⟨0,58,0,iD [(dH.l1.p,dH.l1.g)]⟩:=dH.fE.jT Tryz.f58 [] (by kernel_rfl) (by kernel_rfl) (by kernel_rfl) (all_cons iF (all_cons iF all_nil)) (all_cons (fun YK rl k ls K v hv=>(show dH.l1.g YK k K ls=some v→_ from fun hv=>by
  unfold dH.l1.g at hv;split at hv
  · exact (congrFun (dH.l1.eq YK rl K _ _ _ _ _ _ k) _).trans hv
  · cases hv) hv) all_nil)
theorem dH.e1 {γ:Type}:gu (dH.C (γ:=γ)) ⟨0,58,1000010,iD [(dH.l0.p,dH.l0.g)]⟩:=dH.fE.jT Tryz.f58 [0] (by kernel_rfl) (by kernel_rfl) (by kernel_rfl) (all_cons (fun _=>dH.e0) (all_cons iF all_nil)) (all_cons (fun YK rl k ls K v hv=>(show dH.l0.g YK k K ls=some v→_ from fun hv=>by
  unfold dH.l0.g at hv;split at hv
  · exact (dH.l0.eq YK rl K k _ _ _ _).trans hv
  · cases hv) hv) all_nil)
theorem dH.ok (k:Nat):iV Tryz.prog 58 (dH.m k).s:=okW dH.fE 0 Tryz.f58 k all_nil (fun k=>all_cons (dP.ok k) (all_cons (dB.ok k) (all_cons (dI.ok k) (all_cons (iy.ok k) (all_nil))))) (all_cons ⟨Tryz.func58,by kernel_rfl⟩ all_nil) (all_cons dH.e0 (all_cons dH.e1 all_nil)) (by kernel_rfl) (by kernel_rfl) (fun a=>by kernel_rfl)
noncomputable def eP.m (k:Nat):Sm:=jd [.fm] [.pl .bool] (fun a=>eP.f k a.1.f0 a.1.f1 a.1.f2 a.1.f3)
noncomputable def eP.C {γ:Type}:Ctx γ:=mkC (fun k=>mkE [(108,dP.m k)] []) [(68,Tryz.f68)] [(68,mkA [] [] [] [])] [] []
theorem eP.fE {γ:Type}:(eP.C (γ:=γ)).Ok:=⟨(all_cons (fun k=>by kernel_rfl) all_nil),(all_cons (by kernel_rfl) all_nil),all_nil⟩
theorem eP.ok (k:Nat):iV Tryz.prog 68 (eP.m k).s:=okW eP.fE 0 Tryz.f68 k all_nil (fun k=>all_cons (dP.ok k) (all_nil)) (all_cons ⟨Tryz.func68,by kernel_rfl⟩ all_nil) all_nil (by kernel_rfl) (by kernel_rfl) (fun a=>by kernel_rfl)
noncomputable def fG.m (k:Nat):Sm:=jd [.fm] [.pl .bool] (fun a=>fG.f k a.1.f0 a.1.f1 a.1.f2 a.1.f3)
noncomputable def fG.C {γ:Type}:Ctx γ:=mkC (fun k=>mkE [(58,dH.m k),(68,eP.m k)] []) [(27,Tryz.f27)] [(27,mkA [] [] [] [])] [] []
theorem fG.fE {γ:Type}:(fG.C (γ:=γ)).Ok:=⟨(all_cons (fun k=>by kernel_rfl) all_nil),(all_cons (by kernel_rfl) all_nil),all_nil⟩
theorem fG.ok (k:Nat):iV Tryz.prog 27 (fG.m k).s:=okW fG.fE 0 Tryz.f27 k all_nil (fun k=>all_cons (dH.ok k) (all_cons (eP.ok k) (all_nil))) (all_cons ⟨Tryz.func27,by kernel_rfl⟩ all_nil) all_nil (by kernel_rfl) (by kernel_rfl) (fun a=>by kernel_rfl)
noncomputable def gD.m (k:Nat):Sm:=jd [(.sl 42 .sp)] [.pl .sp,.pl .bool] (fun a=>gD.f k a.1)
noncomputable def gD.C {γ:Type}:Ctx γ:=mkC (fun k=>mkE [] []) [(28,Tryz.f28)] [(28,mkA [] [] [] [])] [] []
theorem gD.fE {γ:Type}:(gD.C (γ:=γ)).Ok:=⟨(all_cons (fun k=>by kernel_rfl) all_nil),(all_cons (by kernel_rfl) all_nil),all_nil⟩
theorem gD.ok (k:Nat):iV Tryz.prog 28 (gD.m k).s:=okW gD.fE 0 Tryz.f28 k all_nil (fun k=>all_nil) (all_cons ⟨Tryz.func28,by kernel_rfl⟩ all_nil) all_nil (by kernel_rfl) (by kernel_rfl) (fun a=>by kernel_rfl)
noncomputable def dw.m (k:Nat):Sm:=jd [.fm] [.pl .bool] (fun a=>dw.f k a.1.f0 a.1.f1 a.1.f2 a.1.f3)
noncomputable def dw.l0.p:PS:=⟨[nO,.one (.bp 0 0)]++nOs 18++[.one (.s (.sl 42 .sp)),.one (.i .i64),.one (.i .i64)]++nOs 55,[.box 25 [.i .i64,.i .i64,.s (.sl 42 .sp),.s .gr]]⟩
noncomputable def dw.l0.c {γ:Type} (YK:HdK γ) (K:dQ→St→Option γ) (c4:Int) (c5:Int) (c6:List (List P.S42)) (c7:List P.S44):=((K .ret ((⟨[nO,.one (.bp 0 0),.one (.lb false)]++nOs 75,[.box 25 [.i .i64,.i .i64,.s (.sl 42 .sp),.s .gr]]⟩:PS).mk' [.i c4,.i c5,.l (.sl 42 .sp) c6,.l .gr c7])),(K (.exit 0) ((⟨[nO,.one (.bp 0 0)]++nOs 76,[.box 25 [.i .i64,.i .i64,.s (.sl 42 .sp),.s .gr]]⟩:PS).mk' [.i c4,.i c5,.l (.sl 42 .sp) c6,.l .gr c7])))
noncomputable def dw.l0.g {γ:Type} (YK:HdK γ) (k:Nat) (K:dQ→St→Option γ):List Lf→Option γ
  | [.l (.sl 42 .sp) c1,.i c2,.i v3,.i c4,.i c5,.l (.sl 42 .sp) c6,.l .gr c7]=>let q:=dw.l0.c YK K c4 c5 c6 c7;dw.l0 q.1 q.2 c1 c2 k v3
  | _=>none
noncomputable def dw.l1.p:PS:=⟨nOs 44++[.one (.s .gr),.one (.i .i64),.one (.i .i64)]++nOs 31,[.box 25 [.i .i64,.i .i64,.s (.sl 42 .sp),.s .gr]]⟩
noncomputable def dw.l1.c {γ:Type} (YK:HdK γ) (K:dQ→St→Option γ) (c4:Int) (c5:Int) (c6:List (List P.S42)) (c7:List P.S44):=((K .ret ((⟨[nO,nO,.one (.lb false)]++nOs 75,[.box 25 [.i .i64,.i .i64,.s (.sl 42 .sp),.s .gr]]⟩:PS).mk' [.i c4,.i c5,.l (.sl 42 .sp) c6,.l .gr c7])),(K (.exit 2) ((⟨nOs 78,[.box 25 [.i .i64,.i .i64,.s (.sl 42 .sp),.s .gr]]⟩:PS).mk' [.i c4,.i c5,.l (.sl 42 .sp) c6,.l .gr c7])))
noncomputable def dw.l1.g {γ:Type} (YK:HdK γ) (k:Nat) (K:dQ→St→Option γ):List Lf→Option γ
  | [.l .gr c1,.i c2,.i v3,.i c4,.i c5,.l (.sl 42 .sp) c6,.l .gr c7]=>let q:=dw.l1.c YK K c4 c5 c6 c7;dw.l1 q.1 q.2 c1 c2 k v3
  | _=>none
noncomputable def dw.C {γ:Type}:Ctx γ:=mkC (fun k=>mkE [(27,fG.m k),(28,gD.m k)] []) [(8,Tryz.f8)] [(8,mkA [] [(0,[1,20,21,22]),(2,[44,45,46])] [(0,[1,2]),(2,[2])] [])] [⟨0,8,0,iD [(dw.l0.p,dw.l0.g)]⟩,⟨0,8,2,iD [(dw.l1.p,dw.l1.g)]⟩] []
theorem dw.l0.eq {γ:Type} (YK:HdK γ) (rl:Option Nat) (K:dQ→St→Option γ) (c1:List (List P.S42)) (c2:Int) (c4:Int) (c5:Int) (c6:List (List P.S42)) (c7:List P.S44):∀ k:Nat,(fun (v3:Int)=>dw.C.lK 0 8 0 Tryz.f8 YK rl 1 k (dw.l0.p.mk' [.l (.sl 42 .sp) c1,.i c2,.i v3,.i c4,.i c5,.l (.sl 42 .sp) c6,.l .gr c7]) K)=(fun (v3:Int)=>dw.l0.g YK k K [.l (.sl 42 .sp) c1,.i c2,.i v3,.i c4,.i c5,.l (.sl 42 .sp) c6,.l .gr c7]):=fH (fun R k v3=>dw.l0T (dw.l0.c YK K c4 c5 c6 c7).1 (dw.l0.c YK K c4 c5 c6 c7).2 c1 c2 R k v3) (by kernel_rfl) (fun k=>by kernel_rfl) (fun k=>by kernel_rfl)
theorem dw.l1.eq {γ:Type} (YK:HdK γ) (rl:Option Nat) (K:dQ→St→Option γ) (c1:List P.S44) (c2:Int) (c4:Int) (c5:Int) (c6:List (List P.S42)) (c7:List P.S44):∀ k:Nat,(fun (v3:Int)=>dw.C.lK 0 8 2 Tryz.f8 YK rl 1 k (dw.l1.p.mk' [.l .gr c1,.i c2,.i v3,.i c4,.i c5,.l (.sl 42 .sp) c6,.l .gr c7]) K)=(fun (v3:Int)=>dw.l1.g YK k K [.l .gr c1,.i c2,.i v3,.i c4,.i c5,.l (.sl 42 .sp) c6,.l .gr c7]):=fH (fun R k v3=>dw.l1T (dw.l1.c YK K c4 c5 c6 c7).1 (dw.l1.c YK K c4 c5 c6 c7).2 c1 c2 R k v3) (by kernel_rfl) (fun k=>by kernel_rfl) (fun k=>by kernel_rfl)
theorem dw.fE {γ:Type}:(dw.C (γ:=γ)).Ok:=⟨(all_cons (fun k=>by kernel_rfl) all_nil),(all_cons (by kernel_rfl) all_nil),all_nil⟩
theorem dw.e0 {γ:Type}:gu (dw.C (γ:=γ)) ⟨0,8,0,iD [(dw.l0.p,dw.l0.g)]⟩:=dw.fE.jT Tryz.f8 [] (by kernel_rfl) (by kernel_rfl) (by kernel_rfl) (all_cons iF (all_cons iF all_nil)) (all_cons (fun YK rl k ls K v hv=>(show dw.l0.g YK k K ls=some v→_ from fun hv=>by
  unfold dw.l0.g at hv;split at hv
  · exact (congrFun (dw.l0.eq YK rl K _ _ _ _ _ _ k) _).trans hv
  · cases hv) hv) all_nil)
theorem dw.e1 {γ:Type}:gu (dw.C (γ:=γ)) ⟨0,8,2,iD [(dw.l1.p,dw.l1.g)]⟩:=dw.fE.jT Tryz.f8 [] (by kernel_rfl) (by kernel_rfl) (by kernel_rfl) (all_cons iF (all_cons iF all_nil)) (all_cons (fun YK rl k ls K v hv=>(show dw.l1.g YK k K ls=some v→_ from fun hv=>by
  unfold dw.l1.g at hv;split at hv
  · exact (congrFun (dw.l1.eq YK rl K _ _ _ _ _ _ k) _).trans hv
  · cases hv) hv) all_nil)
theorem dw.ok (k:Nat):iV Tryz.prog 8 (dw.m k).s:=okW dw.fE 0 Tryz.f8 k all_nil (fun k=>all_cons (fG.ok k) (all_cons (gD.ok k) (all_nil))) (all_cons ⟨Tryz.func8,by kernel_rfl⟩ all_nil) (all_cons dw.e0 (all_cons dw.e1 all_nil)) (by kernel_rfl) (by kernel_rfl) (fun a=>by kernel_rfl)
noncomputable def gH.m (k:Nat):Sm:=jd [(.sl 42 .sp)] [.pl .bool] (fun a=>gH.f k a.1)
noncomputable def gH.C {γ:Type}:Ctx γ:=mkC (fun k=>mkE [] []) [(122,Tryz.f122)] [(122,mkA [] [] [] [])] [] []
theorem gH.fE {γ:Type}:(gH.C (γ:=γ)).Ok:=⟨(all_cons (fun k=>by kernel_rfl) all_nil),(all_cons (by kernel_rfl) all_nil),all_nil⟩
theorem gH.ok (k:Nat):iV Tryz.prog 122 (gH.m k).s:=okW gH.fE 0 Tryz.f122 k all_nil (fun k=>all_nil) (all_cons ⟨Tryz.func122,by kernel_rfl⟩ all_nil) all_nil (by kernel_rfl) (by kernel_rfl) (fun a=>by kernel_rfl)
noncomputable def dZ.m (k:Nat):Sm:=jd [.fm] [.pl .bool] (fun a=>dZ.f k a.1.f0 a.1.f1 a.1.f2 a.1.f3)
noncomputable def dZ.l0.p:PS:=⟨[.one (.s (.sl 42 .sp)),.one (.fn 122 [])]++nOs 5++[.one (.i .i64),.one (.i .i64)]++nOs 10,[.box 25 [.i .i64,.i .i64,.s (.sl 42 .sp),.s .gr]]⟩
noncomputable def dZ.l0.c {γ:Type} (YK:HdK γ) (K:dQ→St→Option γ) (c4:Int) (c5:Int) (c6:List (List P.S42)) (c7:List P.S44):=((fun y1=>K .ret ((⟨nOs 4++[.one (.i .i64)]++nOs 14,[.box 25 [.i .i64,.i .i64,.s (.sl 42 .sp),.s .gr]]⟩:PS).mk' [.i y1,.i c4,.i c5,.l (.sl 42 .sp) c6,.l .gr c7])),(K (.exit 0) ((⟨nOs 19,[.box 25 [.i .i64,.i .i64,.s (.sl 42 .sp),.s .gr]]⟩:PS).mk' [.i c4,.i c5,.l (.sl 42 .sp) c6,.l .gr c7])))
noncomputable def dZ.l0.g {γ:Type} (YK:HdK γ) (k:Nat) (K:dQ→St→Option γ):List Lf→Option γ
  | [.l (.sl 42 .sp) c1,.i c2,.i v3,.i c4,.i c5,.l (.sl 42 .sp) c6,.l .gr c7]=>let q:=dZ.l0.c YK K c4 c5 c6 c7;dZ.l0 q.1 q.2 c1 c2 k v3
  | _=>none
noncomputable def dZ.C {γ:Type}:Ctx γ:=mkC (fun k=>mkE [(122,gH.m k)] []) [(74,Tryz.f74),(112,Tryz.f112),(150,Tryz.f150)] [(74,mkA [] [] [] []),(112,mkA [] [] [] []),(150,mkA [] [(0,[0,1,7,8])] [(0,[4])] [])] [⟨0,150,0,iD [(dZ.l0.p,dZ.l0.g)]⟩] []
theorem dZ.l0.eq {γ:Type} (YK:HdK γ) (rl:Option Nat) (K:dQ→St→Option γ) (c1:List (List P.S42)) (c2:Int) (c4:Int) (c5:Int) (c6:List (List P.S42)) (c7:List P.S44):∀ k:Nat,(fun (v3:Int)=>dZ.C.lK 0 150 0 Tryz.f150 YK rl 1 k (dZ.l0.p.mk' [.l (.sl 42 .sp) c1,.i c2,.i v3,.i c4,.i c5,.l (.sl 42 .sp) c6,.l .gr c7]) K)=(fun (v3:Int)=>dZ.l0.g YK k K [.l (.sl 42 .sp) c1,.i c2,.i v3,.i c4,.i c5,.l (.sl 42 .sp) c6,.l .gr c7]):=fH (fun R k v3=>dZ.l0T (dZ.l0.c YK K c4 c5 c6 c7).1 (dZ.l0.c YK K c4 c5 c6 c7).2 c1 c2 R k v3) (by kernel_rfl) (fun k=>by kernel_rfl) (fun k=>by kernel_rfl)
theorem dZ.fE {γ:Type}:(dZ.C (γ:=γ)).Ok:=⟨(all_cons (fun k=>by kernel_rfl) (all_cons (fun k=>by kernel_rfl) (all_cons (fun k=>by kernel_rfl) all_nil))),(all_cons (by kernel_rfl) (all_cons (by kernel_rfl) (all_cons (by kernel_rfl) all_nil))),all_nil⟩
theorem dZ.e0 {γ:Type}:gu (dZ.C (γ:=γ)) ⟨0,150,0,iD [(dZ.l0.p,dZ.l0.g)]⟩:=dZ.fE.jT Tryz.f150 [] (by kernel_rfl) (by kernel_rfl) (by kernel_rfl) (all_cons iF all_nil) (all_cons (fun YK rl k ls K v hv=>(show dZ.l0.g YK k K ls=some v→_ from fun hv=>by
  unfold dZ.l0.g at hv;split at hv
  · exact (congrFun (dZ.l0.eq YK rl K _ _ _ _ _ _ k) _).trans hv
  · cases hv) hv) all_nil)
theorem dZ.ok (k:Nat):iV Tryz.prog 74 (dZ.m k).s:=okW dZ.fE 2 Tryz.f74 k all_nil (fun k=>all_cons (gH.ok k) (all_nil)) (all_cons ⟨Tryz.func74,by kernel_rfl⟩ (all_cons ⟨Tryz.func112,by kernel_rfl⟩ (all_cons ⟨Tryz.func150,by kernel_rfl⟩ all_nil))) (all_cons dZ.e0 all_nil) (by kernel_rfl) (by kernel_rfl) (fun a=>by kernel_rfl)
noncomputable def dN.m (k:Nat):Sm:=jd [(.sl 42 .sp),(.sl 42 .sp),(.int .i64)] [.pl .bool] (fun a=>dN.f k a.1 a.2.1 a.2.2.1)
noncomputable def dN.l0.p:PS:=⟨[nO,.one (.s .sp),.one (.fn 156 [0])]++nOs 12++[.one (.s .sp),.one (.i .i64),.one (.i .i64)]++nOs 14,[.box 3 [.i .i64]]⟩
noncomputable def dN.l0.c {γ:Type} (YK:HdK γ) (K:dQ→St→Option γ) (c5:Int):=((K .ret ((⟨nOs 6++[.one (.lb false)]++nOs 25,[.box 3 [.i .i64]]⟩:PS).mk' [.i c5])),(K (.exit 0) ((⟨nOs 32,[.box 3 [.i .i64]]⟩:PS).mk' [.i c5])))
noncomputable def dN.l0.g {γ:Type} (YK:HdK γ) (k:Nat) (K:dQ→St→Option γ):List Lf→Option γ
  | [.l .sp c1,.l .sp c2,.i c3,.i v4,.i c5]=>let q:=dN.l0.c YK K c5;dN.l0 q.1 q.2 c1 c2 c3 c5 k v4
  | _=>none
noncomputable def dN.C {γ:Type}:Ctx γ:=mkC (fun k=>mkE [] []) [(124,Tryz.f124),(155,Tryz.f155),(156,Tryz.f156)] [(124,mkA [] [] [] []),(155,mkA [] [(0,[1,2,15,16,17])] [(0,[6])] []),(156,mkA [] [] [] [])] [⟨1,155,0,iD [(dN.l0.p,dN.l0.g)]⟩] []
theorem dN.l0.eq {γ:Type} (YK:HdK γ) (rl:Option Nat) (K:dQ→St→Option γ) (c1:List P.S42) (c2:List P.S42) (c3:Int) (c5:Int):∀ k:Nat,(fun (v4:Int)=>dN.C.lK 1 155 0 Tryz.f155 YK rl 1 k (dN.l0.p.mk' [.l .sp c1,.l .sp c2,.i c3,.i v4,.i c5]) K)=(fun (v4:Int)=>dN.l0.g YK k K [.l .sp c1,.l .sp c2,.i c3,.i v4,.i c5]):=fH (fun R k v4=>dN.l0T (dN.l0.c YK K c5).1 (dN.l0.c YK K c5).2 c1 c2 c3 c5 R k v4) (by kernel_rfl) (fun k=>by kernel_rfl) (fun k=>by kernel_rfl)
theorem dN.fE {γ:Type}:(dN.C (γ:=γ)).Ok:=⟨(all_cons (fun k=>by kernel_rfl) (all_cons (fun k=>by kernel_rfl) (all_cons (fun k=>by kernel_rfl) all_nil))),(all_cons (by kernel_rfl) (all_cons (by kernel_rfl) (all_cons (by kernel_rfl) all_nil))),all_nil⟩
theorem dN.e0 {γ:Type}:gu (dN.C (γ:=γ)) ⟨1,155,0,iD [(dN.l0.p,dN.l0.g)]⟩:=dN.fE.jT Tryz.f155 [] (by kernel_rfl) (by kernel_rfl) (by kernel_rfl) (all_cons iF all_nil) (all_cons (fun YK rl k ls K v hv=>(show dN.l0.g YK k K ls=some v→_ from fun hv=>by
  unfold dN.l0.g at hv;split at hv
  · exact (congrFun (dN.l0.eq YK rl K _ _ _ _ k) _).trans hv
  · cases hv) hv) all_nil)
theorem dN.ok (k:Nat):iV Tryz.prog 124 (dN.m k).s:=okW dN.fE 2 Tryz.f124 k all_nil (fun k=>all_nil) (all_cons ⟨Tryz.func124,by kernel_rfl⟩ (all_cons ⟨Tryz.func155,by kernel_rfl⟩ (all_cons ⟨Tryz.func156,by kernel_rfl⟩ all_nil))) (all_cons dN.e0 all_nil) (by kernel_rfl) (by kernel_rfl) (fun a=>by kernel_rfl)
noncomputable def dU.m (k:Nat):Sm:=jd [.fm,(.int .i64),(.int .i64)] [.pl .bool] (fun a=>dU.f k a.1.f0 a.1.f1 a.1.f2 a.1.f3 a.2.1 a.2.2.1)
noncomputable def dU.l0.p:PS:=⟨[nO,.one (.i .i64),.one (.i .i64),.one (.bp 0 0)]++nOs 8++[.one (.s (.sl 42 .sp)),.one (.i .i64),.one (.i .i64)]++nOs 29,[.box 25 [.i .i64,.i .i64,.s (.sl 42 .sp),.s .gr]]⟩
noncomputable def dU.l0.c {γ:Type} (YK:HdK γ) (K:dQ→St→Option γ) (c6:Int) (c7:Int) (c8:List (List P.S42)) (c9:List P.S44):=((K .ret ((⟨nOs 6++[.one (.lb false)]++nOs 37,[.box 25 [.i .i64,.i .i64,.s (.sl 42 .sp),.s .gr]]⟩:PS).mk' [.i c6,.i c7,.l (.sl 42 .sp) c8,.l .gr c9])),(K (.exit 0) ((⟨nOs 44,[.box 25 [.i .i64,.i .i64,.s (.sl 42 .sp),.s .gr]]⟩:PS).mk' [.i c6,.i c7,.l (.sl 42 .sp) c8,.l .gr c9])))
noncomputable def dU.l0.g {γ:Type} (YK:HdK γ) (k:Nat) (K:dQ→St→Option γ):List Lf→Option γ
  | [.i c1,.i c2,.l (.sl 42 .sp) c3,.i c4,.i v5,.i c6,.i c7,.l (.sl 42 .sp) c8,.l .gr c9]=>let q:=dU.l0.c YK K c6 c7 c8 c9;dU.l0 q.1 q.2 c1 c2 c3 c4 c6 c7 c8 k v5
  | _=>none
noncomputable def dU.C {γ:Type}:Ctx γ:=mkC (fun k=>mkE [(124,dN.m k)] []) [(76,Tryz.f76)] [(76,mkA [] [(0,[1,2,3,12,13,14])] [(0,[6])] [])] [⟨0,76,0,iD [(dU.l0.p,dU.l0.g)]⟩] []
theorem dU.l0.eq {γ:Type} (YK:HdK γ) (rl:Option Nat) (K:dQ→St→Option γ) (c1:Int) (c2:Int) (c3:List (List P.S42)) (c4:Int) (c6:Int) (c7:Int) (c8:List (List P.S42)) (c9:List P.S44):∀ k:Nat,(fun (v5:Int)=>dU.C.lK 0 76 0 Tryz.f76 YK rl 1 k (dU.l0.p.mk' [.i c1,.i c2,.l (.sl 42 .sp) c3,.i c4,.i v5,.i c6,.i c7,.l (.sl 42 .sp) c8,.l .gr c9]) K)=(fun (v5:Int)=>dU.l0.g YK k K [.i c1,.i c2,.l (.sl 42 .sp) c3,.i c4,.i v5,.i c6,.i c7,.l (.sl 42 .sp) c8,.l .gr c9]):=fH (fun R k v5=>dU.l0T (dU.l0.c YK K c6 c7 c8 c9).1 (dU.l0.c YK K c6 c7 c8 c9).2 c1 c2 c3 c4 c6 c7 c8 R k v5) (by kernel_rfl) (fun k=>by kernel_rfl) (fun k=>by kernel_rfl)
theorem dU.fE {γ:Type}:(dU.C (γ:=γ)).Ok:=⟨(all_cons (fun k=>by kernel_rfl) all_nil),(all_cons (by kernel_rfl) all_nil),all_nil⟩
theorem dU.e0 {γ:Type}:gu (dU.C (γ:=γ)) ⟨0,76,0,iD [(dU.l0.p,dU.l0.g)]⟩:=dU.fE.jT Tryz.f76 [] (by kernel_rfl) (by kernel_rfl) (by kernel_rfl) (all_cons iF all_nil) (all_cons (fun YK rl k ls K v hv=>(show dU.l0.g YK k K ls=some v→_ from fun hv=>by
  unfold dU.l0.g at hv;split at hv
  · exact (congrFun (dU.l0.eq YK rl K _ _ _ _ _ _ _ _ k) _).trans hv
  · cases hv) hv) all_nil)
theorem dU.ok (k:Nat):iV Tryz.prog 76 (dU.m k).s:=okW dU.fE 0 Tryz.f76 k all_nil (fun k=>all_cons (dN.ok k) (all_nil)) (all_cons ⟨Tryz.func76,by kernel_rfl⟩ all_nil) (all_cons dU.e0 all_nil) (by kernel_rfl) (by kernel_rfl) (fun a=>by kernel_rfl)
end Go.Proofs.YtcomnjodjijcmaaGreat.R
