/- Lemmas for laws of chapter 7: what the functions that they reach compute. No condition of its own. -/
import Derived.Test.YtcomnjodjijcmaaGreatYD9
import Derived.Test.YtcomnjodjijcmaaGreatYD10
import Derived.Test.YtcomnjodjijcmaaGreatYD12
namespace Go.Proofs.YtcomnjodjijcmaaGreat.R
open M Go.RowKit Go.Proofs.YtcomnjodjijcmaaGreatW.dA Go.Proofs.YtcomnjodjijcmaaGreatW.dX Go.Proofs.YtcomnjodjijcmaaGreatW.eD
set_option linter.unusedVariables false
noncomputable def dG.m (k:Nat):Sm:=jd [.fm,(.int .i64),(.int .i64)] [.pl (.int .i64),.pl .bool] (fun a=>dG.f k a.1.f0 a.1.f1 a.1.f2 a.1.f3 a.2.1 a.2.2.1)
noncomputable def dG.l1.p:PS:=⟨[nO,nO,.one (.i .i64),.one (.bp 0 0)]++nOs 4++[.one (.i .i64)]++nOs 54,[.box 25 [.i .i64,.i .i64,.s (.sl 42 .sp),.s .gr]]⟩
noncomputable def dG.l1.c {γ:Type} (YK:HdK γ) (K:dO→St→Option γ) (c3:Int) (c4:Int) (c5:List (List P.S42)) (c6:List P.S44):=((fun y1=>K .ret ((⟨nOs 6++[.one (.i .i64),.one (.lb true)]++nOs 55,[.box 25 [.i .i64,.i .i64,.s (.sl 42 .sp),.s .gr]]⟩:PS).mk' [.i y1,.i c3,.i c4,.l (.sl 42 .sp) c5,.l .gr c6])),(K (.exit 0) ((⟨nOs 63,[.box 25 [.i .i64,.i .i64,.s (.sl 42 .sp),.s .gr]]⟩:PS).mk' [.i c3,.i c4,.l (.sl 42 .sp) c5,.l .gr c6])))
noncomputable def dG.l1.g {γ:Type} (YK:HdK γ) (k:Nat) (K:dO→St→Option γ):List Lf→Option γ
  | [.i c1,.i v2,.i c3,.i c4,.l (.sl 42 .sp) c5,.l .gr c6]=>let q:=dG.l1.c YK K c3 c4 c5 c6;dG.l1 q.1 q.2 c1 c6 k v2
  | _=>none
noncomputable def dG.l0.p:PS:=⟨[nO,nO,.one (.i .i64),.one (.bp 0 0)]++nOs 4++[.one (.i .i64)]++nOs 54,[.box 25 [.i .i64,.i .i64,.s (.sl 42 .sp),.s .gr]]⟩
noncomputable def dG.l0.c {γ:Type} (YK:HdK γ) (K:dO→St→Option γ)  := ((fun y1 y2 y3 y4 y5=>K .ret ((⟨nOs 6++[.one (.i .i64),.one (.lb true)]++nOs 55,[.box 25 [.i .i64,.i .i64,.s (.sl 42 .sp),.s .gr]]⟩:PS).mk' [.i y1,.i y2,.i y3,.l (.sl 42 .sp) y4,.l .gr y5])),(fun y1 y2 y3 y4=>K .ret ((⟨nOs 6++[.one (.li .i64 0),.one (.lb false)]++nOs 55,[.box 25 [.i .i64,.i .i64,.s (.sl 42 .sp),.s .gr]]⟩:PS).mk' [.i y1,.i y2,.l (.sl 42 .sp) y3,.l .gr y4])))
noncomputable def dG.l0.g {γ:Type} (YK:HdK γ) (k:Nat) (K:dO→St→Option γ):List Lf→Option γ
  | [.i v1,.i v2,.i v3,.i v4,.l (.sl 42 .sp) v5,.l .gr v6]=>let q:=dG.l0.c YK K;dG.l0 q.1 q.2 k v1 v2 v3 v4 v5 v6
  | _=>none
noncomputable def dG.l2.p:PS:=⟨[nO,nO,.one (.i .i64),.one (.bp 0 0)]++nOs 6++[.one (.i .i64)]++nOs 52,[.box 25 [.i .i64,.i .i64,.s (.sl 42 .sp),.s .gr]]⟩
noncomputable def dG.l2.c {γ:Type} (YK:HdK γ) (K:dO→St→Option γ) (c3:Int) (c4:Int) (c5:List (List P.S42)) (c6:List P.S44):=((fun y1=>K .ret ((⟨nOs 6++[.one (.i .i64),.one (.lb true)]++nOs 55,[.box 25 [.i .i64,.i .i64,.s (.sl 42 .sp),.s .gr]]⟩:PS).mk' [.i y1,.i c3,.i c4,.l (.sl 42 .sp) c5,.l .gr c6])),(K (.exit 2) ((⟨nOs 63,[.box 25 [.i .i64,.i .i64,.s (.sl 42 .sp),.s .gr]]⟩:PS).mk' [.i c3,.i c4,.l (.sl 42 .sp) c5,.l .gr c6])))
noncomputable def dG.l2.g {γ:Type} (YK:HdK γ) (k:Nat) (K:dO→St→Option γ):List Lf→Option γ
  | [.i c1,.i v2,.i c3,.i c4,.l (.sl 42 .sp) c5,.l .gr c6]=>let q:=dG.l2.c YK K c3 c4 c5 c6;dG.l2 q.1 q.2 c1 c3 c4 c5 c6 k v2
  | _=>none
noncomputable def dG.C {γ:Type}:Ctx γ:=mkC (fun k=>mkE [(53,gH.m k),(104,eZ.m k),(179,eY.m k),(180,jr.m k)] []) [(173,Tryz.f173)] [(173,mkA [] [(0,[2,3,8]),(2,[2,3,10]),(1000002,[2,3,8])] [(0,[6,7]),(2,[6,7]),(1000002,[1,2,3,6,7])] [])] [⟨0,173,0,iB [(dG.l1.p,dG.l1.g)]⟩,⟨0,173,1000002,iB [(dG.l0.p,dG.l0.g)]⟩,⟨0,173,2,iB [(dG.l2.p,dG.l2.g)]⟩] []
theorem dG.l1.eq {γ:Type} (YK:HdK γ) (rl:Option Nat) (K:dO→St→Option γ) (c1:Int) (c3:Int) (c4:Int) (c5:List (List P.S42)) (c6:List P.S44):∀ k:Nat,(fun (v2:Int)=>dG.C.lK 0 173 0 Tryz.f173 YK rl 1 k (dG.l1.p.mk' [.i c1,.i v2,.i c3,.i c4,.l (.sl 42 .sp) c5,.l .gr c6]) K)=(fun (v2:Int)=>dG.l1.g YK k K [.i c1,.i v2,.i c3,.i c4,.l (.sl 42 .sp) c5,.l .gr c6]):=fE (fun R k v2=>dG.l1T (dG.l1.c YK K c3 c4 c5 c6).1 (dG.l1.c YK K c3 c4 c5 c6).2 c1 c6 R k v2) (by kernel_rfl) (fun k=>by kernel_rfl) (fun k=>by kernel_rfl)
theorem dG.l0.eq {γ:Type} (YK:HdK γ) (rl:Option Nat) (K:dO→St→Option γ) (k:Nat) (v1:Int) (v2:Int) (v3:Int) (v4:Int) (v5:List (List P.S42)) (v6:List P.S44):dG.C.lK 0 173 1000002 Tryz.f173 YK rl 1 k (dG.l0.p.mk' [.i v1,.i v2,.i v3,.i v4,.l (.sl 42 .sp) v5,.l .gr v6]) K=dG.l0.g YK k K [.i v1,.i v2,.i v3,.i v4,.l (.sl 42 .sp) v5,.l .gr v6]:=by kernel_rfl
theorem dG.l2.eq {γ:Type} (YK:HdK γ) (rl:Option Nat) (K:dO→St→Option γ) (c1:Int) (c3:Int) (c4:Int) (c5:List (List P.S42)) (c6:List P.S44):∀ k:Nat,(fun (v2:Int)=>dG.C.lK 0 173 2 Tryz.f173 YK rl 1 k (dG.l2.p.mk' [.i c1,.i v2,.i c3,.i c4,.l (.sl 42 .sp) c5,.l .gr c6]) K)=(fun (v2:Int)=>dG.l2.g YK k K [.i c1,.i v2,.i c3,.i c4,.l (.sl 42 .sp) c5,.l .gr c6]):=fE (fun R k v2=>dG.l2T (dG.l2.c YK K c3 c4 c5 c6).1 (dG.l2.c YK K c3 c4 c5 c6).2 c1 c3 c4 c5 c6 R k v2) (by kernel_rfl) (fun k=>by kernel_rfl) (fun k=>by kernel_rfl)
theorem dG.fJ {γ:Type}:(dG.C (γ:=γ)).Ok:=⟨(all_cons (fun k=>by kernel_rfl) all_nil),(all_cons (by kernel_rfl) all_nil),all_nil⟩
theorem dG.e0 {γ:Type}:iw (dG.C (γ:=γ)) ⟨0,173,0,iB [(dG.l1.p,dG.l1.g)]⟩:=dG.fJ.jY Tryz.f173 [] (by kernel_rfl) (by kernel_rfl) (by kernel_rfl) (all_cons iN (all_cons iN (all_cons iN all_nil))) (all_cons (fun YK rl k ls K v hv=>(show dG.l1.g YK k K ls=some v→_ from fun hv=>by
  unfold dG.l1.g at hv;split at hv
  · exact (congrFun (dG.l1.eq YK rl K _ _ _ _ _ k) _).trans hv
  · cases hv) hv) all_nil)
theorem dG.e1 {γ:Type}:iw (dG.C (γ:=γ)) ⟨0,173,1000002,iB [(dG.l0.p,dG.l0.g)]⟩:=dG.fJ.jY Tryz.f173 [0] (by kernel_rfl) (by kernel_rfl) (by kernel_rfl) (all_cons (fun _=>dG.e0) (all_cons iN (all_cons iN all_nil))) (all_cons (fun YK rl k ls K v hv=>(show dG.l0.g YK k K ls=some v→_ from fun hv=>by
  unfold dG.l0.g at hv;split at hv
  · exact (dG.l0.eq YK rl K k _ _ _ _ _ _).trans hv
  · cases hv) hv) all_nil)
theorem dG.e2 {γ:Type}:iw (dG.C (γ:=γ)) ⟨0,173,2,iB [(dG.l2.p,dG.l2.g)]⟩:=dG.fJ.jY Tryz.f173 [] (by kernel_rfl) (by kernel_rfl) (by kernel_rfl) (all_cons iN (all_cons iN (all_cons iN all_nil))) (all_cons (fun YK rl k ls K v hv=>(show dG.l2.g YK k K ls=some v→_ from fun hv=>by
  unfold dG.l2.g at hv;split at hv
  · exact (congrFun (dG.l2.eq YK rl K _ _ _ _ _ k) _).trans hv
  · cases hv) hv) all_nil)
theorem dG.ok (k:Nat):jg Tryz.prog 173 (dG.m k).s:=okW dG.fJ 0 Tryz.f173 k all_nil (fun k=>all_cons (gH.ok k) (all_cons (eZ.ok k) (all_cons (eY.ok k) (all_cons (jr.ok k) (all_nil))))) (all_cons ⟨Tryz.func173,by kernel_rfl⟩ all_nil) (all_cons dG.e0 (all_cons dG.e1 (all_cons dG.e2 all_nil))) (by kernel_rfl) (by kernel_rfl) (fun a=>by kernel_rfl)
noncomputable def iQ.m (k:Nat):Sm:=jd [.fm,(.int .i64)] [.pl (.int .i64),.pl .bool] (fun a=>iQ.f k a.1.f0 a.1.f1 a.1.f2 a.1.f3 a.2.1)
noncomputable def iQ.C {γ:Type}:Ctx γ:=mkC (fun k=>mkE [(173,dG.m k)] []) [(147,Tryz.f147)] [(147,mkA [] [] [] [])] [] []
theorem iQ.fJ {γ:Type}:(iQ.C (γ:=γ)).Ok:=⟨(all_cons (fun k=>by kernel_rfl) all_nil),(all_cons (by kernel_rfl) all_nil),all_nil⟩
theorem iQ.ok (k:Nat):jg Tryz.prog 147 (iQ.m k).s:=okW iQ.fJ 0 Tryz.f147 k all_nil (fun k=>all_cons (dG.ok k) (all_nil)) (all_cons ⟨Tryz.func147,by kernel_rfl⟩ all_nil) all_nil (by kernel_rfl) (by kernel_rfl) (fun a=>by kernel_rfl)
noncomputable def iR.m (k:Nat):Sm:=jd [.fm,(.int .i64)] [.pl (.int .i64),.pl .bool] (fun a=>iR.f k a.1.f0 a.1.f1 a.1.f2 a.1.f3 a.2.1)
noncomputable def iR.C {γ:Type}:Ctx γ:=mkC (fun k=>mkE [(173,dG.m k)] []) [(148,Tryz.f148)] [(148,mkA [] [] [] [])] [] []
theorem iR.fJ {γ:Type}:(iR.C (γ:=γ)).Ok:=⟨(all_cons (fun k=>by kernel_rfl) all_nil),(all_cons (by kernel_rfl) all_nil),all_nil⟩
theorem iR.ok (k:Nat):jg Tryz.prog 148 (iR.m k).s:=okW iR.fJ 0 Tryz.f148 k all_nil (fun k=>all_cons (dG.ok k) (all_nil)) (all_cons ⟨Tryz.func148,by kernel_rfl⟩ all_nil) all_nil (by kernel_rfl) (by kernel_rfl) (fun a=>by kernel_rfl)
noncomputable def fF.m (k:Nat):Sm:=jd [(.sl 42 .sp),(.sl 42 .sp)] [.pl .bool] (fun a=>fF.f k a.1 a.2.1)
noncomputable def fF.C {γ:Type}:Ctx γ:=mkC (fun k=>mkE [] []) [(149,Tryz.f149)] [(149,mkA [] [] [] [])] [] []
theorem fF.fJ {γ:Type}:(fF.C (γ:=γ)).Ok:=⟨(all_cons (fun k=>by kernel_rfl) all_nil),(all_cons (by kernel_rfl) all_nil),all_nil⟩
theorem fF.ok (k:Nat):jg Tryz.prog 149 (fF.m k).s:=okW fF.fJ 0 Tryz.f149 k all_nil (fun k=>all_nil) (all_cons ⟨Tryz.func149,by kernel_rfl⟩ all_nil) all_nil (by kernel_rfl) (by kernel_rfl) (fun a=>by kernel_rfl)
noncomputable def iT.m (k:Nat):Sm:=jd [.fm,(.int .i64)] [.pl .bool] (fun a=>iT.f k a.1.f0 a.1.f1 a.1.f2 a.1.f3 a.2.1)
noncomputable def iT.C {γ:Type}:Ctx γ:=mkC (fun k=>mkE [(19,gy.m k),(147,iQ.m k),(148,iR.m k),(149,fF.m k)] []) [(111,Tryz.f111)] [(111,mkA [] [] [] [])] [] []
theorem iT.fJ {γ:Type}:(iT.C (γ:=γ)).Ok:=⟨(all_cons (fun k=>by kernel_rfl) all_nil),(all_cons (by kernel_rfl) all_nil),all_nil⟩
theorem iT.ok (k:Nat):jg Tryz.prog 111 (iT.m k).s:=okW iT.fJ 0 Tryz.f111 k all_nil (fun k=>all_cons (gy.ok k) (all_cons (iQ.ok k) (all_cons (iR.ok k) (all_cons (fF.ok k) (all_nil))))) (all_cons ⟨Tryz.func111,by kernel_rfl⟩ all_nil) all_nil (by kernel_rfl) (by kernel_rfl) (fun a=>by kernel_rfl)
noncomputable def dI.m (k:Nat):Sm:=jd [.fm] [.pl (.int .i64)] (fun a=>dI.f k a.1.f0 a.1.f1 a.1.f2 a.1.f3)
noncomputable def dI.l1.p:PS:=⟨[nO,.one (.bp 0 0)]++nOs 27++[.one (.s .gr),.one (.i .i64),.one (.i .i64)]++nOs 9,[.box 25 [.i .i64,.i .i64,.s (.sl 42 .sp),.s .gr]]⟩
noncomputable def dI.l1.c {γ:Type} (YK:HdK γ) (K:dO→St→Option γ) (c4:Int) (c5:Int) (c6:List (List P.S42)) (c7:List P.S44):=((K .ret ((⟨[nO,nO,.one (.li .i64 50)]++nOs 38,[.box 25 [.i .i64,.i .i64,.s (.sl 42 .sp),.s .gr]]⟩:PS).mk' [.i c4,.i c5,.l (.sl 42 .sp) c6,.l .gr c7])),(K (.exit 0) ((⟨nOs 41,[.box 25 [.i .i64,.i .i64,.s (.sl 42 .sp),.s .gr]]⟩:PS).mk' [.i c4,.i c5,.l (.sl 42 .sp) c6,.l .gr c7])))
noncomputable def dI.l1.g {γ:Type} (YK:HdK γ) (k:Nat) (K:dO→St→Option γ):List Lf→Option γ
  | [.l .gr c1,.i c2,.i v3,.i c4,.i c5,.l (.sl 42 .sp) c6,.l .gr c7]=>let q:=dI.l1.c YK K c4 c5 c6 c7;dI.l1 q.1 q.2 c1 c2 c4 c5 c6 c7 k v3
  | _=>none
noncomputable def dI.l0.p:PS:=⟨[nO,.one (.bp 0 0)]++nOs 39,[.box 25 [.i .i64,.i .i64,.s (.sl 42 .sp),.s .gr]]⟩
noncomputable def dI.l0.c {γ:Type} (YK:HdK γ) (K:dO→St→Option γ)  := ((fun y1 y2 y3 y4=>K .ret ((⟨[nO,nO,.one (.li .i64 50)]++nOs 38,[.box 25 [.i .i64,.i .i64,.s (.sl 42 .sp),.s .gr]]⟩:PS).mk' [.i y1,.i y2,.l (.sl 42 .sp) y3,.l .gr y4])),(fun y1 y2 y3 y4=>K .ret ((⟨[nO,nO,.one (.li .i64 0)]++nOs 38,[.box 25 [.i .i64,.i .i64,.s (.sl 42 .sp),.s .gr]]⟩:PS).mk' [.i y1,.i y2,.l (.sl 42 .sp) y3,.l .gr y4])))
noncomputable def dI.l0.g {γ:Type} (YK:HdK γ) (k:Nat) (K:dO→St→Option γ):List Lf→Option γ
  | [.i v1,.i v2,.l (.sl 42 .sp) v3,.l .gr v4]=>let q:=dI.l0.c YK K;dI.l0 q.1 q.2 k v1 v2 v3 v4
  | _=>none
noncomputable def dI.C {γ:Type}:Ctx γ:=mkC (fun k=>mkE [(108,dS.m k),(109,dF.m k),(110,dK.m k),(111,iT.m k)] []) [(58,Tryz.f58)] [(58,mkA [] [(0,[1,29,30,31]),(1000010,[1])] [(0,[2]),(1000010,[2])] [])] [⟨0,58,0,iB [(dI.l1.p,dI.l1.g)]⟩,⟨0,58,1000010,iB [(dI.l0.p,dI.l0.g)]⟩] []
theorem dI.l1.eq {γ:Type} (YK:HdK γ) (rl:Option Nat) (K:dO→St→Option γ) (c1:List P.S44) (c2:Int) (c4:Int) (c5:Int) (c6:List (List P.S42)) (c7:List P.S44):∀ k:Nat,(fun (v3:Int)=>dI.C.lK 0 58 0 Tryz.f58 YK rl 1 k (dI.l1.p.mk' [.l .gr c1,.i c2,.i v3,.i c4,.i c5,.l (.sl 42 .sp) c6,.l .gr c7]) K)=(fun (v3:Int)=>dI.l1.g YK k K [.l .gr c1,.i c2,.i v3,.i c4,.i c5,.l (.sl 42 .sp) c6,.l .gr c7]):=fE (fun R k v3=>dI.l1T (dI.l1.c YK K c4 c5 c6 c7).1 (dI.l1.c YK K c4 c5 c6 c7).2 c1 c2 c4 c5 c6 c7 R k v3) (by kernel_rfl) (fun k=>by kernel_rfl) (fun k=>by kernel_rfl)
theorem dI.l0.eq {γ:Type} (YK:HdK γ) (rl:Option Nat) (K:dO→St→Option γ) (k:Nat) (v1:Int) (v2:Int) (v3:List (List P.S42)) (v4:List P.S44):dI.C.lK 0 58 1000010 Tryz.f58 YK rl 1 k (dI.l0.p.mk' [.i v1,.i v2,.l (.sl 42 .sp) v3,.l .gr v4]) K=dI.l0.g YK k K [.i v1,.i v2,.l (.sl 42 .sp) v3,.l .gr v4]:=by kernel_rfl
theorem dI.fJ {γ:Type}:(dI.C (γ:=γ)).Ok:=⟨(all_cons (fun k=>by kernel_rfl) all_nil),(all_cons (by kernel_rfl) all_nil),all_nil⟩
theorem dI.e0 {γ:Type}:iw (dI.C (γ:=γ)) ⟨0,58,0,iB [(dI.l1.p,dI.l1.g)]⟩:=dI.fJ.jY Tryz.f58 [] (by kernel_rfl) (by kernel_rfl) (by kernel_rfl) (all_cons iN (all_cons iN all_nil)) (all_cons (fun YK rl k ls K v hv=>(show dI.l1.g YK k K ls=some v→_ from fun hv=>by
  unfold dI.l1.g at hv;split at hv
  · exact (congrFun (dI.l1.eq YK rl K _ _ _ _ _ _ k) _).trans hv
  · cases hv) hv) all_nil)
theorem dI.e1 {γ:Type}:iw (dI.C (γ:=γ)) ⟨0,58,1000010,iB [(dI.l0.p,dI.l0.g)]⟩:=dI.fJ.jY Tryz.f58 [0] (by kernel_rfl) (by kernel_rfl) (by kernel_rfl) (all_cons (fun _=>dI.e0) (all_cons iN all_nil)) (all_cons (fun YK rl k ls K v hv=>(show dI.l0.g YK k K ls=some v→_ from fun hv=>by
  unfold dI.l0.g at hv;split at hv
  · exact (dI.l0.eq YK rl K k _ _ _ _).trans hv
  · cases hv) hv) all_nil)
theorem dI.ok (k:Nat):jg Tryz.prog 58 (dI.m k).s:=okW dI.fJ 0 Tryz.f58 k all_nil (fun k=>all_cons (dS.ok k) (all_cons (dF.ok k) (all_cons (dK.ok k) (all_cons (iT.ok k) (all_nil))))) (all_cons ⟨Tryz.func58,by kernel_rfl⟩ all_nil) (all_cons dI.e0 (all_cons dI.e1 all_nil)) (by kernel_rfl) (by kernel_rfl) (fun a=>by kernel_rfl)
noncomputable def fK.m (k:Nat):Sm:=jd [.fm] [.pl .bool] (fun a=>fK.f k a.1.f0 a.1.f1 a.1.f2 a.1.f3)
noncomputable def fK.C {γ:Type}:Ctx γ:=mkC (fun k=>mkE [(108,dS.m k)] []) [(68,Tryz.f68)] [(68,mkA [] [] [] [])] [] []
theorem fK.fJ {γ:Type}:(fK.C (γ:=γ)).Ok:=⟨(all_cons (fun k=>by kernel_rfl) all_nil),(all_cons (by kernel_rfl) all_nil),all_nil⟩
theorem fK.ok (k:Nat):jg Tryz.prog 68 (fK.m k).s:=okW fK.fJ 0 Tryz.f68 k all_nil (fun k=>all_cons (dS.ok k) (all_nil)) (all_cons ⟨Tryz.func68,by kernel_rfl⟩ all_nil) all_nil (by kernel_rfl) (by kernel_rfl) (fun a=>by kernel_rfl)
noncomputable def gD.m (k:Nat):Sm:=jd [.fm] [.pl .bool] (fun a=>gD.f k a.1.f0 a.1.f1 a.1.f2 a.1.f3)
noncomputable def gD.C {γ:Type}:Ctx γ:=mkC (fun k=>mkE [(58,dI.m k),(68,fK.m k)] []) [(27,Tryz.f27)] [(27,mkA [] [] [] [])] [] []
theorem gD.fJ {γ:Type}:(gD.C (γ:=γ)).Ok:=⟨(all_cons (fun k=>by kernel_rfl) all_nil),(all_cons (by kernel_rfl) all_nil),all_nil⟩
theorem gD.ok (k:Nat):jg Tryz.prog 27 (gD.m k).s:=okW gD.fJ 0 Tryz.f27 k all_nil (fun k=>all_cons (dI.ok k) (all_cons (fK.ok k) (all_nil))) (all_cons ⟨Tryz.func27,by kernel_rfl⟩ all_nil) all_nil (by kernel_rfl) (by kernel_rfl) (fun a=>by kernel_rfl)
noncomputable def iE.m (k:Nat):Sm:=jd [(.sl 42 .sp)] [.pl .sp,.pl .bool] (fun a=>iE.f k a.1)
noncomputable def iE.C {γ:Type}:Ctx γ:=mkC (fun k=>mkE [] []) [(28,Tryz.f28)] [(28,mkA [] [] [] [])] [] []
theorem iE.fJ {γ:Type}:(iE.C (γ:=γ)).Ok:=⟨(all_cons (fun k=>by kernel_rfl) all_nil),(all_cons (by kernel_rfl) all_nil),all_nil⟩
theorem iE.ok (k:Nat):jg Tryz.prog 28 (iE.m k).s:=okW iE.fJ 0 Tryz.f28 k all_nil (fun k=>all_nil) (all_cons ⟨Tryz.func28,by kernel_rfl⟩ all_nil) all_nil (by kernel_rfl) (by kernel_rfl) (fun a=>by kernel_rfl)
noncomputable def dx.m (k:Nat):Sm:=jd [.fm] [.pl .bool] (fun a=>dx.f k a.1.f0 a.1.f1 a.1.f2 a.1.f3)
noncomputable def dx.l0.p:PS:=⟨[nO,.one (.bp 0 0)]++nOs 18++[.one (.s (.sl 42 .sp)),.one (.i .i64),.one (.i .i64)]++nOs 55,[.box 25 [.i .i64,.i .i64,.s (.sl 42 .sp),.s .gr]]⟩
noncomputable def dx.l0.c {γ:Type} (YK:HdK γ) (K:dO→St→Option γ) (c4:Int) (c5:Int) (c6:List (List P.S42)) (c7:List P.S44):=((K .ret ((⟨[nO,.one (.bp 0 0),.one (.lb false)]++nOs 75,[.box 25 [.i .i64,.i .i64,.s (.sl 42 .sp),.s .gr]]⟩:PS).mk' [.i c4,.i c5,.l (.sl 42 .sp) c6,.l .gr c7])),(K (.exit 0) ((⟨[nO,.one (.bp 0 0)]++nOs 76,[.box 25 [.i .i64,.i .i64,.s (.sl 42 .sp),.s .gr]]⟩:PS).mk' [.i c4,.i c5,.l (.sl 42 .sp) c6,.l .gr c7])))
noncomputable def dx.l0.g {γ:Type} (YK:HdK γ) (k:Nat) (K:dO→St→Option γ):List Lf→Option γ
  | [.l (.sl 42 .sp) c1,.i c2,.i v3,.i c4,.i c5,.l (.sl 42 .sp) c6,.l .gr c7]=>let q:=dx.l0.c YK K c4 c5 c6 c7;dx.l0 q.1 q.2 c1 c2 k v3
  | _=>none
noncomputable def dx.l1.p:PS:=⟨nOs 44++[.one (.s .gr),.one (.i .i64),.one (.i .i64)]++nOs 31,[.box 25 [.i .i64,.i .i64,.s (.sl 42 .sp),.s .gr]]⟩
noncomputable def dx.l1.c {γ:Type} (YK:HdK γ) (K:dO→St→Option γ) (c4:Int) (c5:Int) (c6:List (List P.S42)) (c7:List P.S44):=((K .ret ((⟨[nO,nO,.one (.lb false)]++nOs 75,[.box 25 [.i .i64,.i .i64,.s (.sl 42 .sp),.s .gr]]⟩:PS).mk' [.i c4,.i c5,.l (.sl 42 .sp) c6,.l .gr c7])),(K (.exit 2) ((⟨nOs 78,[.box 25 [.i .i64,.i .i64,.s (.sl 42 .sp),.s .gr]]⟩:PS).mk' [.i c4,.i c5,.l (.sl 42 .sp) c6,.l .gr c7])))
noncomputable def dx.l1.g {γ:Type} (YK:HdK γ) (k:Nat) (K:dO→St→Option γ):List Lf→Option γ
  | [.l .gr c1,.i c2,.i v3,.i c4,.i c5,.l (.sl 42 .sp) c6,.l .gr c7]=>let q:=dx.l1.c YK K c4 c5 c6 c7;dx.l1 q.1 q.2 c1 c2 k v3
  | _=>none
noncomputable def dx.C {γ:Type}:Ctx γ:=mkC (fun k=>mkE [(27,gD.m k),(28,iE.m k)] []) [(8,Tryz.f8)] [(8,mkA [] [(0,[1,20,21,22]),(2,[44,45,46])] [(0,[1,2]),(2,[2])] [])] [⟨0,8,0,iB [(dx.l0.p,dx.l0.g)]⟩,⟨0,8,2,iB [(dx.l1.p,dx.l1.g)]⟩] []
theorem dx.l0.eq {γ:Type} (YK:HdK γ) (rl:Option Nat) (K:dO→St→Option γ) (c1:List (List P.S42)) (c2:Int) (c4:Int) (c5:Int) (c6:List (List P.S42)) (c7:List P.S44):∀ k:Nat,(fun (v3:Int)=>dx.C.lK 0 8 0 Tryz.f8 YK rl 1 k (dx.l0.p.mk' [.l (.sl 42 .sp) c1,.i c2,.i v3,.i c4,.i c5,.l (.sl 42 .sp) c6,.l .gr c7]) K)=(fun (v3:Int)=>dx.l0.g YK k K [.l (.sl 42 .sp) c1,.i c2,.i v3,.i c4,.i c5,.l (.sl 42 .sp) c6,.l .gr c7]):=fE (fun R k v3=>dx.l0T (dx.l0.c YK K c4 c5 c6 c7).1 (dx.l0.c YK K c4 c5 c6 c7).2 c1 c2 R k v3) (by kernel_rfl) (fun k=>by kernel_rfl) (fun k=>by kernel_rfl)
theorem dx.l1.eq {γ:Type} (YK:HdK γ) (rl:Option Nat) (K:dO→St→Option γ) (c1:List P.S44) (c2:Int) (c4:Int) (c5:Int) (c6:List (List P.S42)) (c7:List P.S44):∀ k:Nat,(fun (v3:Int)=>dx.C.lK 0 8 2 Tryz.f8 YK rl 1 k (dx.l1.p.mk' [.l .gr c1,.i c2,.i v3,.i c4,.i c5,.l (.sl 42 .sp) c6,.l .gr c7]) K)=(fun (v3:Int)=>dx.l1.g YK k K [.l .gr c1,.i c2,.i v3,.i c4,.i c5,.l (.sl 42 .sp) c6,.l .gr c7]):=fE (fun R k v3=>dx.l1T (dx.l1.c YK K c4 c5 c6 c7).1 (dx.l1.c YK K c4 c5 c6 c7).2 c1 c2 R k v3) (by kernel_rfl) (fun k=>by kernel_rfl) (fun k=>by kernel_rfl)
theorem dx.fJ {γ:Type}:(dx.C (γ:=γ)).Ok:=⟨(all_cons (fun k=>by kernel_rfl) all_nil),(all_cons (by kernel_rfl) all_nil),all_nil⟩
theorem dx.e0 {γ:Type}:iw (dx.C (γ:=γ)) ⟨0,8,0,iB [(dx.l0.p,dx.l0.g)]⟩:=dx.fJ.jY Tryz.f8 [] (by kernel_rfl) (by kernel_rfl) (by kernel_rfl) (all_cons iN (all_cons iN all_nil)) (all_cons (fun YK rl k ls K v hv=>(show dx.l0.g YK k K ls=some v→_ from fun hv=>by
  unfold dx.l0.g at hv;split at hv
  · exact (congrFun (dx.l0.eq YK rl K _ _ _ _ _ _ k) _).trans hv
  · cases hv) hv) all_nil)
theorem dx.e1 {γ:Type}:iw (dx.C (γ:=γ)) ⟨0,8,2,iB [(dx.l1.p,dx.l1.g)]⟩:=dx.fJ.jY Tryz.f8 [] (by kernel_rfl) (by kernel_rfl) (by kernel_rfl) (all_cons iN (all_cons iN all_nil)) (all_cons (fun YK rl k ls K v hv=>(show dx.l1.g YK k K ls=some v→_ from fun hv=>by
  unfold dx.l1.g at hv;split at hv
  · exact (congrFun (dx.l1.eq YK rl K _ _ _ _ _ _ k) _).trans hv
  · cases hv) hv) all_nil)
theorem dx.ok (k:Nat):jg Tryz.prog 8 (dx.m k).s:=okW dx.fJ 0 Tryz.f8 k all_nil (fun k=>all_cons (gD.ok k) (all_cons (iE.ok k) (all_nil))) (all_cons ⟨Tryz.func8,by kernel_rfl⟩ all_nil) (all_cons dx.e0 (all_cons dx.e1 all_nil)) (by kernel_rfl) (by kernel_rfl) (fun a=>by kernel_rfl)
noncomputable def iF.m (k:Nat):Sm:=jd [(.sl 42 .sp)] [.pl .bool] (fun a=>iF.f k a.1)
noncomputable def iF.C {γ:Type}:Ctx γ:=mkC (fun k=>mkE [] []) [(122,Tryz.f122)] [(122,mkA [] [] [] [])] [] []
theorem iF.fJ {γ:Type}:(iF.C (γ:=γ)).Ok:=⟨(all_cons (fun k=>by kernel_rfl) all_nil),(all_cons (by kernel_rfl) all_nil),all_nil⟩
theorem iF.ok (k:Nat):jg Tryz.prog 122 (iF.m k).s:=okW iF.fJ 0 Tryz.f122 k all_nil (fun k=>all_nil) (all_cons ⟨Tryz.func122,by kernel_rfl⟩ all_nil) all_nil (by kernel_rfl) (by kernel_rfl) (fun a=>by kernel_rfl)
noncomputable def eH.m (k:Nat):Sm:=jd [.fm] [.pl .bool] (fun a=>eH.f k a.1.f0 a.1.f1 a.1.f2 a.1.f3)
noncomputable def eH.l0.p:PS:=⟨[.one (.s (.sl 42 .sp)),.one (.fn 122 [])]++nOs 5++[.one (.i .i64),.one (.i .i64)]++nOs 10,[.box 25 [.i .i64,.i .i64,.s (.sl 42 .sp),.s .gr]]⟩
noncomputable def eH.l0.c {γ:Type} (YK:HdK γ) (K:dO→St→Option γ) (c4:Int) (c5:Int) (c6:List (List P.S42)) (c7:List P.S44):=((fun y1=>K .ret ((⟨nOs 4++[.one (.i .i64)]++nOs 14,[.box 25 [.i .i64,.i .i64,.s (.sl 42 .sp),.s .gr]]⟩:PS).mk' [.i y1,.i c4,.i c5,.l (.sl 42 .sp) c6,.l .gr c7])),(K (.exit 0) ((⟨nOs 19,[.box 25 [.i .i64,.i .i64,.s (.sl 42 .sp),.s .gr]]⟩:PS).mk' [.i c4,.i c5,.l (.sl 42 .sp) c6,.l .gr c7])))
noncomputable def eH.l0.g {γ:Type} (YK:HdK γ) (k:Nat) (K:dO→St→Option γ):List Lf→Option γ
  | [.l (.sl 42 .sp) c1,.i c2,.i v3,.i c4,.i c5,.l (.sl 42 .sp) c6,.l .gr c7]=>let q:=eH.l0.c YK K c4 c5 c6 c7;eH.l0 q.1 q.2 c1 c2 k v3
  | _=>none
noncomputable def eH.C {γ:Type}:Ctx γ:=mkC (fun k=>mkE [(122,iF.m k)] []) [(74,Tryz.f74),(112,Tryz.f112),(150,Tryz.f150)] [(74,mkA [] [] [] []),(112,mkA [] [] [] []),(150,mkA [] [(0,[0,1,7,8])] [(0,[4])] [])] [⟨0,150,0,iB [(eH.l0.p,eH.l0.g)]⟩] []
theorem eH.l0.eq {γ:Type} (YK:HdK γ) (rl:Option Nat) (K:dO→St→Option γ) (c1:List (List P.S42)) (c2:Int) (c4:Int) (c5:Int) (c6:List (List P.S42)) (c7:List P.S44):∀ k:Nat,(fun (v3:Int)=>eH.C.lK 0 150 0 Tryz.f150 YK rl 1 k (eH.l0.p.mk' [.l (.sl 42 .sp) c1,.i c2,.i v3,.i c4,.i c5,.l (.sl 42 .sp) c6,.l .gr c7]) K)=(fun (v3:Int)=>eH.l0.g YK k K [.l (.sl 42 .sp) c1,.i c2,.i v3,.i c4,.i c5,.l (.sl 42 .sp) c6,.l .gr c7]):=fE (fun R k v3=>eH.l0T (eH.l0.c YK K c4 c5 c6 c7).1 (eH.l0.c YK K c4 c5 c6 c7).2 c1 c2 R k v3) (by kernel_rfl) (fun k=>by kernel_rfl) (fun k=>by kernel_rfl)
theorem eH.fJ {γ:Type}:(eH.C (γ:=γ)).Ok:=⟨(all_cons (fun k=>by kernel_rfl) (all_cons (fun k=>by kernel_rfl) (all_cons (fun k=>by kernel_rfl) all_nil))),(all_cons (by kernel_rfl) (all_cons (by kernel_rfl) (all_cons (by kernel_rfl) all_nil))),all_nil⟩
theorem eH.e0 {γ:Type}:iw (eH.C (γ:=γ)) ⟨0,150,0,iB [(eH.l0.p,eH.l0.g)]⟩:=eH.fJ.jY Tryz.f150 [] (by kernel_rfl) (by kernel_rfl) (by kernel_rfl) (all_cons iN all_nil) (all_cons (fun YK rl k ls K v hv=>(show eH.l0.g YK k K ls=some v→_ from fun hv=>by
  unfold eH.l0.g at hv;split at hv
  · exact (congrFun (eH.l0.eq YK rl K _ _ _ _ _ _ k) _).trans hv
  · cases hv) hv) all_nil)
theorem eH.ok (k:Nat):jg Tryz.prog 74 (eH.m k).s:=okW eH.fJ 2 Tryz.f74 k all_nil (fun k=>all_cons (iF.ok k) (all_nil)) (all_cons ⟨Tryz.func74,by kernel_rfl⟩ (all_cons ⟨Tryz.func112,by kernel_rfl⟩ (all_cons ⟨Tryz.func150,by kernel_rfl⟩ all_nil))) (all_cons eH.e0 all_nil) (by kernel_rfl) (by kernel_rfl) (fun a=>by kernel_rfl)
noncomputable def dQ.m (k:Nat):Sm:=jd [(.sl 42 .sp),(.sl 42 .sp),(.int .i64)] [.pl .bool] (fun a=>dQ.f k a.1 a.2.1 a.2.2.1)
noncomputable def dQ.l0.p:PS:=⟨[nO,.one (.s .sp),.one (.fn 156 [0])]++nOs 12++[.one (.s .sp),.one (.i .i64),.one (.i .i64)]++nOs 14,[.box 3 [.i .i64]]⟩
noncomputable def dQ.l0.c {γ:Type} (YK:HdK γ) (K:dO→St→Option γ) (c5:Int):=((K .ret ((⟨nOs 6++[.one (.lb false)]++nOs 25,[.box 3 [.i .i64]]⟩:PS).mk' [.i c5])),(K (.exit 0) ((⟨nOs 32,[.box 3 [.i .i64]]⟩:PS).mk' [.i c5])))
noncomputable def dQ.l0.g {γ:Type} (YK:HdK γ) (k:Nat) (K:dO→St→Option γ):List Lf→Option γ
  | [.l .sp c1,.l .sp c2,.i c3,.i v4,.i c5]=>let q:=dQ.l0.c YK K c5;dQ.l0 q.1 q.2 c1 c2 c3 c5 k v4
  | _=>none
noncomputable def dQ.C {γ:Type}:Ctx γ:=mkC (fun k=>mkE [] []) [(124,Tryz.f124),(155,Tryz.f155),(156,Tryz.f156)] [(124,mkA [] [] [] []),(155,mkA [] [(0,[1,2,15,16,17])] [(0,[6])] []),(156,mkA [] [] [] [])] [⟨1,155,0,iB [(dQ.l0.p,dQ.l0.g)]⟩] []
theorem dQ.l0.eq {γ:Type} (YK:HdK γ) (rl:Option Nat) (K:dO→St→Option γ) (c1:List P.S42) (c2:List P.S42) (c3:Int) (c5:Int):∀ k:Nat,(fun (v4:Int)=>dQ.C.lK 1 155 0 Tryz.f155 YK rl 1 k (dQ.l0.p.mk' [.l .sp c1,.l .sp c2,.i c3,.i v4,.i c5]) K)=(fun (v4:Int)=>dQ.l0.g YK k K [.l .sp c1,.l .sp c2,.i c3,.i v4,.i c5]):=fE (fun R k v4=>dQ.l0T (dQ.l0.c YK K c5).1 (dQ.l0.c YK K c5).2 c1 c2 c3 c5 R k v4) (by kernel_rfl) (fun k=>by kernel_rfl) (fun k=>by kernel_rfl)
theorem dQ.fJ {γ:Type}:(dQ.C (γ:=γ)).Ok:=⟨(all_cons (fun k=>by kernel_rfl) (all_cons (fun k=>by kernel_rfl) (all_cons (fun k=>by kernel_rfl) all_nil))),(all_cons (by kernel_rfl) (all_cons (by kernel_rfl) (all_cons (by kernel_rfl) all_nil))),all_nil⟩
theorem dQ.e0 {γ:Type}:iw (dQ.C (γ:=γ)) ⟨1,155,0,iB [(dQ.l0.p,dQ.l0.g)]⟩:=dQ.fJ.jY Tryz.f155 [] (by kernel_rfl) (by kernel_rfl) (by kernel_rfl) (all_cons iN all_nil) (all_cons (fun YK rl k ls K v hv=>(show dQ.l0.g YK k K ls=some v→_ from fun hv=>by
  unfold dQ.l0.g at hv;split at hv
  · exact (congrFun (dQ.l0.eq YK rl K _ _ _ _ k) _).trans hv
  · cases hv) hv) all_nil)
theorem dQ.ok (k:Nat):jg Tryz.prog 124 (dQ.m k).s:=okW dQ.fJ 2 Tryz.f124 k all_nil (fun k=>all_nil) (all_cons ⟨Tryz.func124,by kernel_rfl⟩ (all_cons ⟨Tryz.func155,by kernel_rfl⟩ (all_cons ⟨Tryz.func156,by kernel_rfl⟩ all_nil))) (all_cons dQ.e0 all_nil) (by kernel_rfl) (by kernel_rfl) (fun a=>by kernel_rfl)
noncomputable def dZ.m (k:Nat):Sm:=jd [.fm,(.int .i64),(.int .i64)] [.pl .bool] (fun a=>dZ.f k a.1.f0 a.1.f1 a.1.f2 a.1.f3 a.2.1 a.2.2.1)
noncomputable def dZ.l0.p:PS:=⟨[nO,.one (.i .i64),.one (.i .i64),.one (.bp 0 0)]++nOs 8++[.one (.s (.sl 42 .sp)),.one (.i .i64),.one (.i .i64)]++nOs 29,[.box 25 [.i .i64,.i .i64,.s (.sl 42 .sp),.s .gr]]⟩
noncomputable def dZ.l0.c {γ:Type} (YK:HdK γ) (K:dO→St→Option γ) (c6:Int) (c7:Int) (c8:List (List P.S42)) (c9:List P.S44):=((K .ret ((⟨nOs 6++[.one (.lb false)]++nOs 37,[.box 25 [.i .i64,.i .i64,.s (.sl 42 .sp),.s .gr]]⟩:PS).mk' [.i c6,.i c7,.l (.sl 42 .sp) c8,.l .gr c9])),(K (.exit 0) ((⟨nOs 44,[.box 25 [.i .i64,.i .i64,.s (.sl 42 .sp),.s .gr]]⟩:PS).mk' [.i c6,.i c7,.l (.sl 42 .sp) c8,.l .gr c9])))
noncomputable def dZ.l0.g {γ:Type} (YK:HdK γ) (k:Nat) (K:dO→St→Option γ):List Lf→Option γ
  | [.i c1,.i c2,.l (.sl 42 .sp) c3,.i c4,.i v5,.i c6,.i c7,.l (.sl 42 .sp) c8,.l .gr c9]=>let q:=dZ.l0.c YK K c6 c7 c8 c9;dZ.l0 q.1 q.2 c1 c2 c3 c4 c6 c7 c8 k v5
  | _=>none
noncomputable def dZ.C {γ:Type}:Ctx γ:=mkC (fun k=>mkE [(124,dQ.m k)] []) [(76,Tryz.f76)] [(76,mkA [] [(0,[1,2,3,12,13,14])] [(0,[6])] [])] [⟨0,76,0,iB [(dZ.l0.p,dZ.l0.g)]⟩] []
theorem dZ.l0.eq {γ:Type} (YK:HdK γ) (rl:Option Nat) (K:dO→St→Option γ) (c1:Int) (c2:Int) (c3:List (List P.S42)) (c4:Int) (c6:Int) (c7:Int) (c8:List (List P.S42)) (c9:List P.S44):∀ k:Nat,(fun (v5:Int)=>dZ.C.lK 0 76 0 Tryz.f76 YK rl 1 k (dZ.l0.p.mk' [.i c1,.i c2,.l (.sl 42 .sp) c3,.i c4,.i v5,.i c6,.i c7,.l (.sl 42 .sp) c8,.l .gr c9]) K)=(fun (v5:Int)=>dZ.l0.g YK k K [.i c1,.i c2,.l (.sl 42 .sp) c3,.i c4,.i v5,.i c6,.i c7,.l (.sl 42 .sp) c8,.l .gr c9]):=fE (fun R k v5=>dZ.l0T (dZ.l0.c YK K c6 c7 c8 c9).1 (dZ.l0.c YK K c6 c7 c8 c9).2 c1 c2 c3 c4 c6 c7 c8 R k v5) (by kernel_rfl) (fun k=>by kernel_rfl) (fun k=>by kernel_rfl)
theorem dZ.fJ {γ:Type}:(dZ.C (γ:=γ)).Ok:=⟨(all_cons (fun k=>by kernel_rfl) all_nil),(all_cons (by kernel_rfl) all_nil),all_nil⟩
theorem dZ.e0 {γ:Type}:iw (dZ.C (γ:=γ)) ⟨0,76,0,iB [(dZ.l0.p,dZ.l0.g)]⟩:=dZ.fJ.jY Tryz.f76 [] (by kernel_rfl) (by kernel_rfl) (by kernel_rfl) (all_cons iN all_nil) (all_cons (fun YK rl k ls K v hv=>(show dZ.l0.g YK k K ls=some v→_ from fun hv=>by
  unfold dZ.l0.g at hv;split at hv
  · exact (congrFun (dZ.l0.eq YK rl K _ _ _ _ _ _ _ _ k) _).trans hv
  · cases hv) hv) all_nil)
theorem dZ.ok (k:Nat):jg Tryz.prog 76 (dZ.m k).s:=okW dZ.fJ 0 Tryz.f76 k all_nil (fun k=>all_cons (dQ.ok k) (all_nil)) (all_cons ⟨Tryz.func76,by kernel_rfl⟩ all_nil) (all_cons dZ.e0 all_nil) (by kernel_rfl) (by kernel_rfl) (fun a=>by kernel_rfl)
end Go.Proofs.YtcomnjodjijcmaaGreat.R
namespace Go.Proofs.YtcomnjodjijcmaaGreat.R
open M Go.RowKit Go.Proofs.YtcomnjodjijcmaaGreatW.dA Go.Proofs.YtcomnjodjijcmaaGreatW.dX Go.Proofs.YtcomnjodjijcmaaGreatW.eD
set_option linter.unusedVariables false
noncomputable def dH.m (k:Nat):Sm:=jd [.fm] [.pl .fm] (fun a=>dH.f k a.1.f0 a.1.f1 a.1.f2 a.1.f3)
noncomputable def dH.y0.p0:List PB:=[.box 25 [.i .i64,.i .i64,.s (.sl 42 .sp),.s .gr],.box 25 [.li .i64 0,.li .i64 0,.lo 37 (.sl 42 .sp),.lo 44 .gr],.box 25 [.li .i64 0,.li .i64 0,.lo 37 (.sl 42 .sp),.lo 44 .gr],.box 3 [.i .i64],.lp .normal]
noncomputable def dH.y0.p1:List PB:=[.box 25 [.i .i64,.i .i64,.s (.sl 42 .sp),.s .gr],.box 25 [.li .i64 0,.li .i64 0,.lo 37 (.sl 42 .sp),.lo 44 .gr],.box 25 [.i .i64,.i .i64,.o 37 (.sl 42 .sp),.lo 44 .gr],.box 3 [.i .i64],.lp (.exit 0)]
noncomputable def dH.y0 {γ:Type} (x:AV) (bx:List Bx) (x0:Int→Int→(List (List P.S42))→(List P.S44)→Int→Option γ) (x1:Int→Int→(List (List P.S42))→(List P.S44)→Int→Int→(List (List P.S42))→Int→Option γ):Option γ :=
  match yrd true dH.y0.p0 x bx with
  | some [.i z1,.i z2,.l (.sl 42 .sp) z3,.l .gr z4,.i z5]=>(x0 z1 z2 z3 z4 z5)
  | _=>match yrd false dH.y0.p1 x bx with
  | some [.i z1,.i z2,.l (.sl 42 .sp) z3,.l .gr z4,.i z5,.i z6,.l (.sl 42 .sp) z7,.i z8]=>(x1 z1 z2 z3 z4 z5 z6 z7 z8)
  | _=>none
noncomputable def dH.y0T {γ:Type}:YdK γ:=fun K x bx=>dH.y0 x bx (fun z1 z2 z3 z4 z5=>K (lW true) (xH dH.y0.p0 [.i z1,.i z2,.l (.sl 42 .sp) z3,.l .gr z4,.i z5]).1) (fun z1 z2 z3 z4 z5 z6 z7 z8=>K (lW false) (xH dH.y0.p1 [.i z1,.i z2,.l (.sl 42 .sp) z3,.l .gr z4,.i z5,.i z6,.l (.sl 42 .sp) z7,.i z8]).1)
theorem dH.abH {γ:Type}:acw (dH.y0T (γ:=γ)):=fun K x bx v h=>by
  unfold dH.y0T dH.y0 at h;split at h
  · rename_i hy
    obtain ⟨rfl,rfl⟩:=sO hy;exact h
  · split at h
    · rename_i hy
      obtain ⟨rfl,rfl⟩:=sO hy;exact h
    · cases h
noncomputable def dH.l0.p:PS:=⟨[.one (.yl 4),.one (.bp 3 0),nO,.one (.i .i64)]++nOs 15,[.box 25 [.i .i64,.i .i64,.s (.sl 42 .sp),.s .gr],.box 25 [.li .i64 0,.li .i64 0,.lo 37 (.sl 42 .sp),.lo 44 .gr],.box 25 [.li .i64 0,.li .i64 0,.lo 37 (.sl 42 .sp),.lo 44 .gr],.box 3 [.i .i64],.lp .normal]⟩
noncomputable def dH.l0.c {γ:Type} (YK:HdK γ) (K:dO→St→Option γ)  := ((fun q0 q1 q2 q3 q4 q5 x0 x1=>(YK 4).bind fun h=>h [.pt (.one (.v (.int .i64 q0)))] [.box 25 [.v (.int .i64 q1),.v (.int .i64 q2),.sl (.sl 42 .sp) q3,.sl .gr q4],.box 25 [.v (.int .i64 0),.v (.int .i64 0),.ow 37 (.sl 42 .sp) [],.ow 44 .gr []],.box 25 [.v (.int .i64 0),.v (.int .i64 0),.ow 37 (.sl 42 .sp) [],.ow 44 .gr []],.box 3 [.v (.int .i64 q5)],.lp .normal] (fun x bx=>dH.y0 x bx x0 x1)),(fun y1 y2 y3 y4 y5 y6 y7 y8=>K .ret ((⟨nOs 19,[.box 25 [.i .i64,.i .i64,.s (.sl 42 .sp),.s .gr],.box 25 [.li .i64 0,.li .i64 0,.lo 37 (.sl 42 .sp),.lo 44 .gr],.box 25 [.i .i64,.i .i64,.o 37 (.sl 42 .sp),.lo 44 .gr],.box 3 [.i .i64],.lp (.exit 0)]⟩:PS).mk' [.i y1,.i y2,.l (.sl 42 .sp) y3,.l .gr y4,.i y5,.i y6,.l (.sl 42 .sp) y7,.i y8])),(fun y1 y2 y3 y4 y5=>K (.exit 0) ((⟨nOs 19,[.box 25 [.i .i64,.i .i64,.s (.sl 42 .sp),.s .gr],.box 25 [.li .i64 0,.li .i64 0,.lo 37 (.sl 42 .sp),.lo 44 .gr],.box 25 [.li .i64 0,.li .i64 0,.lo 37 (.sl 42 .sp),.lo 44 .gr],.box 3 [.i .i64],.lp .normal]⟩:PS).mk' [.i y1,.i y2,.l (.sl 42 .sp) y3,.l .gr y4,.i y5])))
noncomputable def dH.l0.g {γ:Type} (YK:HdK γ) (k:Nat) (K:dO→St→Option γ):List Lf→Option γ
  | [.i v1,.i v2,.i v3,.l (.sl 42 .sp) v4,.l .gr v5,.i v6]=>let q:=dH.l0.c YK K;dH.l0 q.1 q.2.1 q.2.2 k v1 v2 v3 v4 v5 v6
  | _=>none
noncomputable def dH.l1.p:PS:=⟨[nO,nO,.one (.bp 1 0),.one (.bp 2 0)]++nOs 41++[.one (.s (.sl 42 .sp)),.one (.i .i64),.one (.i .i64)]++nOs 12,[.box 25 [.i .i64,.i .i64,.s (.sl 42 .sp),.s .gr],.box 25 [.li .i64 0,.li .i64 0,.lo 37 (.sl 42 .sp),.lo 44 .gr],.box 25 [.i .i64,.i .i64,.o 37 (.sl 42 .sp),.lo 44 .gr],.box 3 [.i .i64],.lpb]⟩
noncomputable def dH.l1.c {γ:Type} (YK:HdK γ) (K:dO→St→Option γ) (c4:Int) (c5:Int) (c6:List (List P.S42)) (c7:List P.S44) (c8:Int) (c9:Int) (c11:Int):=(fun y1=>K (.exit 2) ((⟨[nO,nO,.one (.bp 1 0),.one (.bp 2 0)]++nOs 56,[.box 25 [.i .i64,.i .i64,.s (.sl 42 .sp),.s .gr],.box 25 [.li .i64 0,.li .i64 0,.lo 37 (.sl 42 .sp),.lo 44 .gr],.box 25 [.i .i64,.i .i64,.o 37 (.sl 42 .sp),.lo 44 .gr],.box 3 [.i .i64],.lpb]⟩:PS).mk' [.i c4,.i c5,.l (.sl 42 .sp) c6,.l .gr c7,.i c8,.i c9,.l (.sl 42 .sp) y1,.i c11]))
noncomputable def dH.l1.g {γ:Type} (YK:HdK γ) (k:Nat) (K:dO→St→Option γ):List Lf→Option γ
  | [.l (.sl 42 .sp) c1,.i c2,.i v3,.i c4,.i c5,.l (.sl 42 .sp) c6,.l .gr c7,.i c8,.i c9,.l (.sl 42 .sp) v10,.i c11]=>dH.l1 (dH.l1.c YK K c4 c5 c6 c7 c8 c9 c11) c1 c2 k v3 v10
  | _=>none
noncomputable def dH.C {γ:Type}:Ctx γ:=mkC (fun k=>mkE [(36,eO.m k),(70,gK.m k),(74,eH.m k),(76,dZ.m k)] [75]) [(34,Tryz.f34),(75,Tryz.f75),(123,Tryz.f123)] [(34,mkA [13,18,26,38,39,52,59] [(2,[2,3,45,46,47])] [(2,[2,3])] []),(75,mkA [] [] [] []),(123,mkA [] [(0,[0,1,3])] [(0,[])] [])] [⟨1,123,0,iB [(dH.l0.p,dH.l0.g)]⟩,⟨2,34,2,iB [(dH.l1.p,dH.l1.g)]⟩] [⟨1,123,4,dH.y0T⟩]
theorem dH.l0.eq {γ:Type} (YK:HdK γ) (rl:Option Nat) (K:dO→St→Option γ)  : ∀ k:Nat,(fun (v1:Int) (v2:Int) (v3:Int) (v4:List (List P.S42)) (v5:List P.S44) (v6:Int)=>dH.C.lK 1 123 0 Tryz.f123 YK rl 5 k (dH.l0.p.mk' [.i v1,.i v2,.i v3,.l (.sl 42 .sp) v4,.l .gr v5,.i v6]) K)=(fun (v1:Int) (v2:Int) (v3:Int) (v4:List (List P.S42)) (v5:List P.S44) (v6:Int)=>dH.l0.g YK k K [.i v1,.i v2,.i v3,.l (.sl 42 .sp) v4,.l .gr v5,.i v6]):=fE (fun R k v1 v2 v3 v4 v5 v6=>dH.l0T (dH.l0.c YK K).1 (dH.l0.c YK K).2.1 (dH.l0.c YK K).2.2 R k v1 v2 v3 v4 v5 v6) (by kernel_rfl) (fun k=>by kernel_rfl) (fun k=>by kernel_rfl)
theorem dH.l1.eq {γ:Type} (YK:HdK γ) (rl:Option Nat) (K:dO→St→Option γ) (c1:List (List P.S42)) (c2:Int) (c4:Int) (c5:Int) (c6:List (List P.S42)) (c7:List P.S44) (c8:Int) (c9:Int) (c11:Int):∀ k:Nat,(fun (v3:Int) (v10:List (List P.S42))=>dH.C.lK 2 34 2 Tryz.f34 YK rl 5 k (dH.l1.p.mk' [.l (.sl 42 .sp) c1,.i c2,.i v3,.i c4,.i c5,.l (.sl 42 .sp) c6,.l .gr c7,.i c8,.i c9,.l (.sl 42 .sp) v10,.i c11]) K)=(fun (v3:Int) (v10:List (List P.S42))=>dH.l1.g YK k K [.l (.sl 42 .sp) c1,.i c2,.i v3,.i c4,.i c5,.l (.sl 42 .sp) c6,.l .gr c7,.i c8,.i c9,.l (.sl 42 .sp) v10,.i c11]):=fE (fun R k v3 v10=>dH.l1T (dH.l1.c YK K c4 c5 c6 c7 c8 c9 c11) c1 c2 R k v3 v10) (by kernel_rfl) (fun k=>by kernel_rfl) (fun k=>by kernel_rfl)
theorem dH.fJ {γ:Type}:(dH.C (γ:=γ)).Ok:=⟨(all_cons (fun k=>by kernel_rfl) (all_cons (fun k=>by kernel_rfl) (all_cons (fun k=>by kernel_rfl) all_nil))),(all_cons (by kernel_rfl) (all_cons (by kernel_rfl) (all_cons (by kernel_rfl) all_nil))),(all_cons dH.abH all_nil)⟩
theorem dH.e0 {γ:Type}:iw (dH.C (γ:=γ)) ⟨1,123,0,iB [(dH.l0.p,dH.l0.g)]⟩:=dH.fJ.jY Tryz.f123 [] (by kernel_rfl) (by kernel_rfl) (by kernel_rfl) (all_cons iN (all_cons iN all_nil)) (all_cons (fun YK rl k ls K v hv=>(show dH.l0.g YK k K ls=some v→_ from fun hv=>by
  unfold dH.l0.g at hv;split at hv
  · exact (congrFun (congrFun (congrFun (congrFun (congrFun (congrFun (dH.l0.eq YK rl K k) _) _) _) _) _) _).trans hv
  · cases hv) hv) all_nil)
theorem dH.e1 {γ:Type}:iw (dH.C (γ:=γ)) ⟨2,34,2,iB [(dH.l1.p,dH.l1.g)]⟩:=dH.fJ.jY Tryz.f34 [] (by kernel_rfl) (by kernel_rfl) (by kernel_rfl) (all_cons (fun _=>dH.e0) (all_cons iN all_nil)) (all_cons (fun YK rl k ls K v hv=>(show dH.l1.g YK k K ls=some v→_ from fun hv=>by
  unfold dH.l1.g at hv;split at hv
  · exact (congrFun (congrFun (dH.l1.eq YK rl K _ _ _ _ _ _ _ _ _ k) _) _).trans hv
  · cases hv) hv) all_nil)
theorem dH.ok (k:Nat):jg Tryz.prog 34 (dH.m k).s:=okW dH.fJ 2 Tryz.f34 k (all_cons ⟨Tryz.f75,Tryz.func75,by kernel_rfl⟩ all_nil) (fun k=>all_cons (eO.ok k) (all_cons (gK.ok k) (all_cons (eH.ok k) (all_cons (dZ.ok k) (all_nil))))) (all_cons ⟨Tryz.func34,by kernel_rfl⟩ (all_cons ⟨Tryz.func75,by kernel_rfl⟩ (all_cons ⟨Tryz.func123,by kernel_rfl⟩ all_nil))) (all_cons dH.e0 (all_cons dH.e1 all_nil)) (by kernel_rfl) (by kernel_rfl) (fun a=>by kernel_rfl)
noncomputable def dz.m (k:Nat):Sm:=jd [(.sl 42 .sp),(.sl 42 .sp)] [.pl .bool] (fun a=>dz.f k a.1 a.2.1)
noncomputable def dz.l0.p:PS:=⟨[.one (.s .sp),.one (.s .sp)]++nOs 10++[.one (.i .i64),.one (.i .i64)]++nOs 12,[]⟩
noncomputable def dz.l0.c {γ:Type} (YK:HdK γ) (K:dO→St→Option γ)  := ((K .ret ((⟨nOs 4++[.one (.lb false)]++nOs 21,[]⟩:PS).mk' [])),(K (.exit 0) ((⟨nOs 26,[]⟩:PS).mk' [])))
noncomputable def dz.l0.g {γ:Type} (YK:HdK γ) (k:Nat) (K:dO→St→Option γ):List Lf→Option γ
  | [.l .sp c1,.l .sp c2,.i c3,.i v4]=>let q:=dz.l0.c YK K;dz.l0 q.1 q.2 c1 c2 c3 k v4
  | _=>none
noncomputable def dz.C {γ:Type}:Ctx γ:=mkC (fun k=>mkE [] []) [(56,Tryz.f56)] [(56,mkA [] [(0,[0,1,12,13])] [(0,[4])] [])] [⟨0,56,0,iB [(dz.l0.p,dz.l0.g)]⟩] []
theorem dz.l0.eq {γ:Type} (YK:HdK γ) (rl:Option Nat) (K:dO→St→Option γ) (c1:List P.S42) (c2:List P.S42) (c3:Int):∀ k:Nat,(fun (v4:Int)=>dz.C.lK 0 56 0 Tryz.f56 YK rl 0 k (dz.l0.p.mk' [.l .sp c1,.l .sp c2,.i c3,.i v4]) K)=(fun (v4:Int)=>dz.l0.g YK k K [.l .sp c1,.l .sp c2,.i c3,.i v4]):=fE (fun R k v4=>dz.l0T (dz.l0.c YK K).1 (dz.l0.c YK K).2 c1 c2 c3 R k v4) (by kernel_rfl) (fun k=>by kernel_rfl) (fun k=>by kernel_rfl)
theorem dz.fJ {γ:Type}:(dz.C (γ:=γ)).Ok:=⟨(all_cons (fun k=>by kernel_rfl) all_nil),(all_cons (by kernel_rfl) all_nil),all_nil⟩
theorem dz.e0 {γ:Type}:iw (dz.C (γ:=γ)) ⟨0,56,0,iB [(dz.l0.p,dz.l0.g)]⟩:=dz.fJ.jY Tryz.f56 [] (by kernel_rfl) (by kernel_rfl) (by kernel_rfl) (all_cons iN all_nil) (all_cons (fun YK rl k ls K v hv=>(show dz.l0.g YK k K ls=some v→_ from fun hv=>by
  unfold dz.l0.g at hv;split at hv
  · exact (congrFun (dz.l0.eq YK rl K _ _ _ k) _).trans hv
  · cases hv) hv) all_nil)
theorem dz.ok (k:Nat):jg Tryz.prog 56 (dz.m k).s:=okW dz.fJ 0 Tryz.f56 k all_nil (fun k=>all_nil) (all_cons ⟨Tryz.func56,by kernel_rfl⟩ all_nil) (all_cons dz.e0 all_nil) (by kernel_rfl) (by kernel_rfl) (fun a=>by kernel_rfl)
noncomputable def fO.m (k:Nat):Sm:=jd [(.sl 42 .sp),(.sl 42 .sp)] [.pl .bool] (fun a=>fO.f k a.1 a.2.1)
noncomputable def fO.C {γ:Type}:Ctx γ:=mkC (fun k=>mkE [(56,dz.m k)] []) [(20,Tryz.f20)] [(20,mkA [] [] [] [])] [] []
theorem fO.fJ {γ:Type}:(fO.C (γ:=γ)).Ok:=⟨(all_cons (fun k=>by kernel_rfl) all_nil),(all_cons (by kernel_rfl) all_nil),all_nil⟩
theorem fO.ok (k:Nat):jg Tryz.prog 20 (fO.m k).s:=okW fO.fJ 0 Tryz.f20 k all_nil (fun k=>all_cons (dz.ok k) (all_nil)) (all_cons ⟨Tryz.func20,by kernel_rfl⟩ all_nil) all_nil (by kernel_rfl) (by kernel_rfl) (fun a=>by kernel_rfl)
noncomputable def iU.m (k:Nat):Sm:=jd [.fm,.gr] [.pl .bool] (fun a=>iU.f k a.1.f0 a.1.f1 a.1.f2 a.1.f3 a.2.1.f0 a.2.1.f1)
noncomputable def iU.C {γ:Type}:Ctx γ:=mkC (fun k=>mkE [(19,gy.m k),(20,fO.m k)] []) [(35,Tryz.f35)] [(35,mkA [] [] [] [])] [] []
theorem iU.fJ {γ:Type}:(iU.C (γ:=γ)).Ok:=⟨(all_cons (fun k=>by kernel_rfl) all_nil),(all_cons (by kernel_rfl) all_nil),all_nil⟩
theorem iU.ok (k:Nat):jg Tryz.prog 35 (iU.m k).s:=okW iU.fJ 0 Tryz.f35 k all_nil (fun k=>all_cons (gy.ok k) (all_cons (fO.ok k) (all_nil))) (all_cons ⟨Tryz.func35,by kernel_rfl⟩ all_nil) all_nil (by kernel_rfl) (by kernel_rfl) (fun a=>by kernel_rfl)
noncomputable def dL.m (k:Nat):Sm:=jd [.fm] [.pl .fm] (fun a=>dL.f k a.1.f0 a.1.f1 a.1.f2 a.1.f3)
noncomputable def dL.l0.p:PS:=⟨[nO,nO,.one (.bp 1 0),.one (.bp 2 0),.one (.o 44 .gr)]++nOs 5++[.one (.s .gr),.one (.i .i64),.one (.i .i64)]++nOs 20,[.box 25 [.i .i64,.i .i64,.s (.sl 42 .sp),.s .gr],.box 25 [.li .i64 0,.li .i64 0,.lo 37 (.sl 42 .sp),.lo 44 .gr],.box 25 [.i .i64,.i .i64,.s (.sl 42 .sp),.s .gr]]⟩
noncomputable def dL.l0.c {γ:Type} (YK:HdK γ) (K:dO→St→Option γ) (c5:Int) (c6:Int) (c7:List (List P.S42)) (c8:List P.S44) (c9:Int) (c10:Int) (c11:List (List P.S42)) (c12:List P.S44):=(fun y1=>K (.exit 0) ((⟨[nO,nO,.one (.bp 1 0),.one (.bp 2 0),.one (.o 44 .gr)]++nOs 28,[.box 25 [.i .i64,.i .i64,.s (.sl 42 .sp),.s .gr],.box 25 [.li .i64 0,.li .i64 0,.lo 37 (.sl 42 .sp),.lo 44 .gr],.box 25 [.i .i64,.i .i64,.s (.sl 42 .sp),.s .gr]]⟩:PS).mk' [.l .gr y1,.i c5,.i c6,.l (.sl 42 .sp) c7,.l .gr c8,.i c9,.i c10,.l (.sl 42 .sp) c11,.l .gr c12]))
noncomputable def dL.l0.g {γ:Type} (YK:HdK γ) (k:Nat) (K:dO→St→Option γ):List Lf→Option γ
  | [.l .gr v1,.l .gr c2,.i c3,.i v4,.i c5,.i c6,.l (.sl 42 .sp) c7,.l .gr c8,.i c9,.i c10,.l (.sl 42 .sp) c11,.l .gr c12]=>dL.l0 (dL.l0.c YK K c5 c6 c7 c8 c9 c10 c11 c12) c2 c3 c9 c10 c11 c12 k v1 v4
  | _=>none
noncomputable def dL.C {γ:Type}:Ctx γ:=mkC (fun k=>mkE [(34,dH.m k),(35,iU.m k),(36,eO.m k)] []) [(10,Tryz.f10)] [(10,mkA [20,30,32] [(0,[2,3,4,10,11,12])] [(0,[2,3,4])] [])] [⟨0,10,0,iB [(dL.l0.p,dL.l0.g)]⟩] []
theorem dL.l0.eq {γ:Type} (YK:HdK γ) (rl:Option Nat) (K:dO→St→Option γ) (c2:List P.S44) (c3:Int) (c5:Int) (c6:Int) (c7:List (List P.S42)) (c8:List P.S44) (c9:Int) (c10:Int) (c11:List (List P.S42)) (c12:List P.S44):∀ k:Nat,(fun (v1:List P.S44) (v4:Int)=>dL.C.lK 0 10 0 Tryz.f10 YK rl 3 k (dL.l0.p.mk' [.l .gr v1,.l .gr c2,.i c3,.i v4,.i c5,.i c6,.l (.sl 42 .sp) c7,.l .gr c8,.i c9,.i c10,.l (.sl 42 .sp) c11,.l .gr c12]) K)=(fun (v1:List P.S44) (v4:Int)=>dL.l0.g YK k K [.l .gr v1,.l .gr c2,.i c3,.i v4,.i c5,.i c6,.l (.sl 42 .sp) c7,.l .gr c8,.i c9,.i c10,.l (.sl 42 .sp) c11,.l .gr c12]):=fE (fun R k v1 v4=>dL.l0T (dL.l0.c YK K c5 c6 c7 c8 c9 c10 c11 c12) c2 c3 c9 c10 c11 c12 R k v1 v4) (by kernel_rfl) (fun k=>by kernel_rfl) (fun k=>by kernel_rfl)
theorem dL.fJ {γ:Type}:(dL.C (γ:=γ)).Ok:=⟨(all_cons (fun k=>by kernel_rfl) all_nil),(all_cons (by kernel_rfl) all_nil),all_nil⟩
theorem dL.e0 {γ:Type}:iw (dL.C (γ:=γ)) ⟨0,10,0,iB [(dL.l0.p,dL.l0.g)]⟩:=dL.fJ.jY Tryz.f10 [] (by kernel_rfl) (by kernel_rfl) (by kernel_rfl) (all_cons iN all_nil) (all_cons (fun YK rl k ls K v hv=>(show dL.l0.g YK k K ls=some v→_ from fun hv=>by
  unfold dL.l0.g at hv;split at hv
  · exact (congrFun (congrFun (dL.l0.eq YK rl K _ _ _ _ _ _ _ _ _ _ k) _) _).trans hv
  · cases hv) hv) all_nil)
theorem dL.ok (k:Nat):jg Tryz.prog 10 (dL.m k).s:=okW dL.fJ 0 Tryz.f10 k all_nil (fun k=>all_cons (dH.ok k) (all_cons (iU.ok k) (all_cons (eO.ok k) (all_nil)))) (all_cons ⟨Tryz.func10,by kernel_rfl⟩ all_nil) (all_cons dL.e0 all_nil) (by kernel_rfl) (by kernel_rfl) (fun a=>by kernel_rfl)
noncomputable def jq.m (k:Nat):Sm:=jd [(.int .i64),(.int .i64)] [.pl (.int .i64),.pl (.int .i64)] (fun a=>jq.f k a.1 a.2.1)
noncomputable def jq.C {γ:Type}:Ctx γ:=mkC (fun k=>mkE [(143,bits_Mul64.m k),(144,iD.m k),(145,iq.m k),(157,fZ.m k)] []) [(128,Tryz.f128)] [(128,mkA [] [] [] [])] [] []
theorem jq.fJ {γ:Type}:(jq.C (γ:=γ)).Ok:=⟨(all_cons (fun k=>by kernel_rfl) all_nil),(all_cons (by kernel_rfl) all_nil),all_nil⟩
theorem jq.ok (k:Nat):jg Tryz.prog 128 (jq.m k).s:=okW jq.fJ 0 Tryz.f128 k all_nil (fun k=>all_cons (bits_Mul64.ok k) (all_cons (iD.ok k) (all_cons (iq.ok k) (all_cons (fZ.ok k) (all_nil))))) (all_cons ⟨Tryz.func128,by kernel_rfl⟩ all_nil) all_nil (by kernel_rfl) (by kernel_rfl) (fun a=>by kernel_rfl)
noncomputable def dU.m (k:Nat):Sm:=jd [.fm,.fm] [.pl (.int .i64),.pl (.int .i64),.pl (.int .i64)] (fun a=>dU.f k a.1.f0 a.1.f1 a.1.f2 a.1.f3 a.2.1.f0 a.2.1.f1 a.2.1.f2 a.2.1.f3)
noncomputable def dU.l0.p:PS:=⟨[nO,nO,.one (.bp 0 0),.one (.bp 1 0)]++nOs 3++[.one (.i .i64)]++nOs 51,[.box 25 [.i .i64,.i .i64,.s (.sl 42 .sp),.s .gr],.box 25 [.i .i64,.i .i64,.s (.sl 42 .sp),.s .gr]]⟩
noncomputable def dU.l0.c {γ:Type} (YK:HdK γ) (K:dO→St→Option γ)  := ((fun y1 y2 y3 y4 y5 y6 y7 y8=>K .ret ((⟨nOs 4++[.one (.li .i64 0),.one (.li .i64 0),.one (.li .i64 3)]++nOs 52,[.box 25 [.i .i64,.i .i64,.s (.sl 42 .sp),.s .gr],.box 25 [.i .i64,.i .i64,.s (.sl 42 .sp),.s .gr]]⟩:PS).mk' [.i y1,.i y2,.l (.sl 42 .sp) y3,.l .gr y4,.i y5,.i y6,.l (.sl 42 .sp) y7,.l .gr y8])),(fun y1 y2 y3 y4 y5 y6 y7 y8=>K .ret ((⟨nOs 4++[.one (.li .i64 0),.one (.li .i64 0),.one (.li .i64 0)]++nOs 52,[.box 25 [.i .i64,.i .i64,.s (.sl 42 .sp),.s .gr],.box 25 [.i .i64,.i .i64,.s (.sl 42 .sp),.s .gr]]⟩:PS).mk' [.i y1,.i y2,.l (.sl 42 .sp) y3,.l .gr y4,.i y5,.i y6,.l (.sl 42 .sp) y7,.l .gr y8])),(fun y1 y2 y3 y4 y5 y6 y7 y8=>K .ret ((⟨nOs 4++[.one (.li .i64 0),.one (.li .i64 0),.one (.li .i64 20)]++nOs 52,[.box 25 [.i .i64,.i .i64,.s (.sl 42 .sp),.s .gr],.box 25 [.i .i64,.i .i64,.s (.sl 42 .sp),.s .gr],.box 25 [.i .i64,.i .i64,.s (.sl 42 .sp),.s .gr]]⟩:PS).mk' [.i y1,.i y2,.l (.sl 42 .sp) y3,.l .gr y4,.i y5,.i y6,.l (.sl 42 .sp) y7,.l .gr y8,.i y5,.i y6,.l (.sl 42 .sp) y7,.l .gr y8])),(fun y1 y2 y3 y4 y5 y6 y7 y8 y9 aa=>K .ret ((⟨nOs 4++[.one (.i .i64),.one (.i .i64),.one (.li .i64 0)]++nOs 52,[.box 25 [.i .i64,.i .i64,.s (.sl 42 .sp),.s .gr],.box 25 [.i .i64,.i .i64,.s (.sl 42 .sp),.s .gr],.box 25 [.i .i64,.i .i64,.s (.sl 42 .sp),.s .gr]]⟩:PS).mk' [.i y1,.i y2,.i y3,.i y4,.l (.sl 42 .sp) y5,.l .gr y6,.i y7,.i y8,.l (.sl 42 .sp) y9,.l .gr aa,.i y7,.i y8,.l (.sl 42 .sp) y9,.l .gr aa])),(fun y1 y2 y3 y4 y5 y6 y7 y8=>K .ret ((⟨nOs 4++[.one (.li .i64 0),.one (.li .i64 0),.one (.li .i64 20)]++nOs 52,[.box 25 [.i .i64,.i .i64,.s (.sl 42 .sp),.s .gr],.box 25 [.i .i64,.i .i64,.s (.sl 42 .sp),.s .gr],.box 25 [.i .i64,.i .i64,.s (.sl 42 .sp),.s .gr]]⟩:PS).mk' [.i y1,.i y2,.l (.sl 42 .sp) y3,.l .gr y4,.i y5,.i y6,.l (.sl 42 .sp) y7,.l .gr y8,.i y1,.i y2,.l (.sl 42 .sp) y3,.l .gr y4])),(fun y1 y2 y3 y4 y5 y6 y7 y8 y9 aa=>K .ret ((⟨nOs 4++[.one (.i .i64),.one (.i .i64),.one (.li .i64 0)]++nOs 52,[.box 25 [.i .i64,.i .i64,.s (.sl 42 .sp),.s .gr],.box 25 [.i .i64,.i .i64,.s (.sl 42 .sp),.s .gr],.box 25 [.i .i64,.i .i64,.s (.sl 42 .sp),.s .gr]]⟩:PS).mk' [.i y1,.i y2,.i y3,.i y4,.l (.sl 42 .sp) y5,.l .gr y6,.i y7,.i y8,.l (.sl 42 .sp) y9,.l .gr aa,.i y3,.i y4,.l (.sl 42 .sp) y5,.l .gr y6])))
noncomputable def dU.l0.g {γ:Type} (YK:HdK γ) (k:Nat) (K:dO→St→Option γ):List Lf→Option γ
  | [.i v1,.i v2,.i v3,.l (.sl 42 .sp) v4,.l .gr v5,.i v6,.i v7,.l (.sl 42 .sp) v8,.l .gr v9]=>let q:=dU.l0.c YK K;dU.l0 q.1 q.2.1 q.2.2.1 q.2.2.2.1 q.2.2.2.2.1 q.2.2.2.2.2 k v1 v2 v3 v4 v5 v6 v7 v8 v9
  | _=>none
noncomputable def dU.C {γ:Type}:Ctx γ:=mkC (fun k=>mkE [(105,iH.m k),(128,jq.m k)] []) [(78,Tryz.f78)] [(78,mkA [] [(1000013,[2,3,7])] [(1000013,[4,5,6])] [])] [⟨0,78,1000013,iB [(dU.l0.p,dU.l0.g)]⟩] []
theorem dU.l0.eq {γ:Type} (YK:HdK γ) (rl:Option Nat) (K:dO→St→Option γ) (k:Nat) (v1:Int) (v2:Int) (v3:Int) (v4:List (List P.S42)) (v5:List P.S44) (v6:Int) (v7:Int) (v8:List (List P.S42)) (v9:List P.S44):dU.C.lK 0 78 1000013 Tryz.f78 YK rl 2 k (dU.l0.p.mk' [.i v1,.i v2,.i v3,.l (.sl 42 .sp) v4,.l .gr v5,.i v6,.i v7,.l (.sl 42 .sp) v8,.l .gr v9]) K=dU.l0.g YK k K [.i v1,.i v2,.i v3,.l (.sl 42 .sp) v4,.l .gr v5,.i v6,.i v7,.l (.sl 42 .sp) v8,.l .gr v9]:=by kernel_rfl
theorem dU.fJ {γ:Type}:(dU.C (γ:=γ)).Ok:=⟨(all_cons (fun k=>by kernel_rfl) all_nil),(all_cons (by kernel_rfl) all_nil),all_nil⟩
theorem dU.e0 {γ:Type}:iw (dU.C (γ:=γ)) ⟨0,78,1000013,iB [(dU.l0.p,dU.l0.g)]⟩:=dU.fJ.jY Tryz.f78 [] (by kernel_rfl) (by kernel_rfl) (by kernel_rfl) (all_cons iN all_nil) (all_cons (fun YK rl k ls K v hv=>(show dU.l0.g YK k K ls=some v→_ from fun hv=>by
  unfold dU.l0.g at hv;split at hv
  · exact (dU.l0.eq YK rl K k _ _ _ _ _ _ _ _ _).trans hv
  · cases hv) hv) all_nil)
theorem dU.ok (k:Nat):jg Tryz.prog 78 (dU.m k).s:=okW dU.fJ 0 Tryz.f78 k all_nil (fun k=>all_cons (iH.ok k) (all_cons (jq.ok k) (all_nil))) (all_cons ⟨Tryz.func78,by kernel_rfl⟩ all_nil) (all_cons dU.e0 all_nil) (by kernel_rfl) (by kernel_rfl) (fun a=>by kernel_rfl)
noncomputable def iI.m (k:Nat):Sm:=jd [(.sl 42 .sp)] [.pl .bool] (fun a=>iI.f k a.1)
noncomputable def iI.C {γ:Type}:Ctx γ:=mkC (fun k=>mkE [] []) [(129,Tryz.f129)] [(129,mkA [] [] [] [])] [] []
theorem iI.fJ {γ:Type}:(iI.C (γ:=γ)).Ok:=⟨(all_cons (fun k=>by kernel_rfl) all_nil),(all_cons (by kernel_rfl) all_nil),all_nil⟩
theorem iI.ok (k:Nat):jg Tryz.prog 129 (iI.m k).s:=okW iI.fJ 0 Tryz.f129 k all_nil (fun k=>all_nil) (all_cons ⟨Tryz.func129,by kernel_rfl⟩ all_nil) all_nil (by kernel_rfl) (by kernel_rfl) (fun a=>by kernel_rfl)
noncomputable def eP.m (k:Nat):Sm:=jd [.fm] [.pl .bool] (fun a=>eP.f k a.1.f0 a.1.f1 a.1.f2 a.1.f3)
noncomputable def eP.l0.p:PS:=⟨[.one (.s (.sl 42 .sp)),.one (.fn 129 [])]++nOs 5++[.one (.i .i64),.one (.i .i64)]++nOs 10,[.box 25 [.i .i64,.i .i64,.s (.sl 42 .sp),.s .gr]]⟩
noncomputable def eP.l0.c {γ:Type} (YK:HdK γ) (K:dO→St→Option γ) (c4:Int) (c5:Int) (c6:List (List P.S42)) (c7:List P.S44):=((fun y1=>K .ret ((⟨nOs 4++[.one (.i .i64)]++nOs 14,[.box 25 [.i .i64,.i .i64,.s (.sl 42 .sp),.s .gr]]⟩:PS).mk' [.i y1,.i c4,.i c5,.l (.sl 42 .sp) c6,.l .gr c7])),(K (.exit 0) ((⟨nOs 19,[.box 25 [.i .i64,.i .i64,.s (.sl 42 .sp),.s .gr]]⟩:PS).mk' [.i c4,.i c5,.l (.sl 42 .sp) c6,.l .gr c7])))
noncomputable def eP.l0.g {γ:Type} (YK:HdK γ) (k:Nat) (K:dO→St→Option γ):List Lf→Option γ
  | [.l (.sl 42 .sp) c1,.i c2,.i v3,.i c4,.i c5,.l (.sl 42 .sp) c6,.l .gr c7]=>let q:=eP.l0.c YK K c4 c5 c6 c7;eP.l0 q.1 q.2 c1 c2 k v3
  | _=>none
noncomputable def eP.C {γ:Type}:Ctx γ:=mkC (fun k=>mkE [(129,iI.m k)] []) [(79,Tryz.f79),(112,Tryz.f112),(150,Tryz.f150)] [(79,mkA [] [] [] []),(112,mkA [] [] [] []),(150,mkA [] [(0,[0,1,7,8])] [(0,[4])] [])] [⟨0,150,0,iB [(eP.l0.p,eP.l0.g)]⟩] []
theorem eP.l0.eq {γ:Type} (YK:HdK γ) (rl:Option Nat) (K:dO→St→Option γ) (c1:List (List P.S42)) (c2:Int) (c4:Int) (c5:Int) (c6:List (List P.S42)) (c7:List P.S44):∀ k:Nat,(fun (v3:Int)=>eP.C.lK 0 150 0 Tryz.f150 YK rl 1 k (eP.l0.p.mk' [.l (.sl 42 .sp) c1,.i c2,.i v3,.i c4,.i c5,.l (.sl 42 .sp) c6,.l .gr c7]) K)=(fun (v3:Int)=>eP.l0.g YK k K [.l (.sl 42 .sp) c1,.i c2,.i v3,.i c4,.i c5,.l (.sl 42 .sp) c6,.l .gr c7]):=fE (fun R k v3=>eP.l0T (eP.l0.c YK K c4 c5 c6 c7).1 (eP.l0.c YK K c4 c5 c6 c7).2 c1 c2 R k v3) (by kernel_rfl) (fun k=>by kernel_rfl) (fun k=>by kernel_rfl)
theorem eP.fJ {γ:Type}:(eP.C (γ:=γ)).Ok:=⟨(all_cons (fun k=>by kernel_rfl) (all_cons (fun k=>by kernel_rfl) (all_cons (fun k=>by kernel_rfl) all_nil))),(all_cons (by kernel_rfl) (all_cons (by kernel_rfl) (all_cons (by kernel_rfl) all_nil))),all_nil⟩
theorem eP.e0 {γ:Type}:iw (eP.C (γ:=γ)) ⟨0,150,0,iB [(eP.l0.p,eP.l0.g)]⟩:=eP.fJ.jY Tryz.f150 [] (by kernel_rfl) (by kernel_rfl) (by kernel_rfl) (all_cons iN all_nil) (all_cons (fun YK rl k ls K v hv=>(show eP.l0.g YK k K ls=some v→_ from fun hv=>by
  unfold eP.l0.g at hv;split at hv
  · exact (congrFun (eP.l0.eq YK rl K _ _ _ _ _ _ k) _).trans hv
  · cases hv) hv) all_nil)
theorem eP.ok (k:Nat):jg Tryz.prog 79 (eP.m k).s:=okW eP.fJ 2 Tryz.f79 k all_nil (fun k=>all_cons (iI.ok k) (all_nil)) (all_cons ⟨Tryz.func79,by kernel_rfl⟩ (all_cons ⟨Tryz.func112,by kernel_rfl⟩ (all_cons ⟨Tryz.func150,by kernel_rfl⟩ all_nil))) (all_cons eP.e0 all_nil) (by kernel_rfl) (by kernel_rfl) (fun a=>by kernel_rfl)
noncomputable def gN.m (k:Nat):Sm:=jd [.fm,(.int .i64)] [.own 42 .sp,.pl (.int .i64)] (fun a=>gN.f k a.1.f0 a.1.f1 a.1.f2 a.1.f3 a.2.1)
noncomputable def gN.C {γ:Type}:Ctx γ:=mkC (fun k=>mkE [(55,eG.m k),(70,gK.m k),(105,iH.m k)] []) [(80,Tryz.f80)] [(80,mkA [49] [] [] [])] [] []
theorem gN.fJ {γ:Type}:(gN.C (γ:=γ)).Ok:=⟨(all_cons (fun k=>by kernel_rfl) all_nil),(all_cons (by kernel_rfl) all_nil),all_nil⟩
theorem gN.ok (k:Nat):jg Tryz.prog 80 (gN.m k).s:=okW gN.fJ 0 Tryz.f80 k all_nil (fun k=>all_cons (eG.ok k) (all_cons (gK.ok k) (all_cons (iH.ok k) (all_nil)))) (all_cons ⟨Tryz.func80,by kernel_rfl⟩ all_nil) all_nil (by kernel_rfl) (by kernel_rfl) (fun a=>by kernel_rfl)
noncomputable def dN.m (k:Nat):Sm:=jd [.fm,.fm] [.own 90 .pr,.pl (.int .i64),.pl (.int .i64)] (fun a=>dN.f k a.1.f0 a.1.f1 a.1.f2 a.1.f3 a.2.1.f0 a.2.1.f1 a.2.1.f2 a.2.1.f3)
noncomputable def dN.l1.p:PS:=⟨[nO,nO,.one (.bp 0 0),.one (.bp 1 0)]++nOs 4++[.one (.i .i64)]++nOs 4++[.one (.o 90 .pr)]++nOs 31++[.one (.i .i64),.one (.i .i64)]++nOs 29,[.box 25 [.i .i64,.i .i64,.s (.sl 42 .sp),.s .gr],.box 25 [.i .i64,.i .i64,.s (.sl 42 .sp),.s .gr]]⟩
noncomputable def dN.l1.c {γ:Type} (YK:HdK γ) (K:dO→St→Option γ) (c1:Int) (c5:Int) (c6:Int) (c7:List (List P.S42)) (c8:List P.S44) (c9:Int) (c10:Int) (c11:List (List P.S42)) (c12:List P.S44):=((fun y1=>K .ret ((⟨nOs 4++[.one (.lo 90 .pr),.one (.li .i64 0),.one (.li .i64 20),nO,.one (.i .i64)]++nOs 4++[.one (.o 90 .pr)]++nOs 62,[.box 25 [.i .i64,.i .i64,.s (.sl 42 .sp),.s .gr],.box 25 [.i .i64,.i .i64,.s (.sl 42 .sp),.s .gr]]⟩:PS).mk' [.i c1,.l .pr y1,.i c5,.i c6,.l (.sl 42 .sp) c7,.l .gr c8,.i c9,.i c10,.l (.sl 42 .sp) c11,.l .gr c12])),(fun y1=>K (.exit 0) ((⟨nOs 8++[.one (.i .i64)]++nOs 4++[.one (.o 90 .pr)]++nOs 62,[.box 25 [.i .i64,.i .i64,.s (.sl 42 .sp),.s .gr],.box 25 [.i .i64,.i .i64,.s (.sl 42 .sp),.s .gr]]⟩:PS).mk' [.i c1,.l .pr y1,.i c5,.i c6,.l (.sl 42 .sp) c7,.l .gr c8,.i c9,.i c10,.l (.sl 42 .sp) c11,.l .gr c12])))
noncomputable def dN.l1.g {γ:Type} (YK:HdK γ) (k:Nat) (K:dO→St→Option γ):List Lf→Option γ
  | [.i c1,.l .pr v2,.i c3,.i v4,.i c5,.i c6,.l (.sl 42 .sp) c7,.l .gr c8,.i c9,.i c10,.l (.sl 42 .sp) c11,.l .gr c12]=>let q:=dN.l1.c YK K c1 c5 c6 c7 c8 c9 c10 c11 c12;dN.l1 q.1 q.2 c3 c5 c6 c7 c8 c9 c10 c11 c12 k v2 v4
  | _=>none
noncomputable def dN.l0.p:PS:=⟨[nO,nO,.one (.bp 0 0),.one (.bp 1 0)]++nOs 3++[.one (.i .i64),.one (.i .i64)]++nOs 67,[.box 25 [.i .i64,.i .i64,.s (.sl 42 .sp),.s .gr],.box 25 [.i .i64,.i .i64,.s (.sl 42 .sp),.s .gr]]⟩
noncomputable def dN.l0.c {γ:Type} (YK:HdK γ) (K:dO→St→Option γ)  := ((fun y1 y2 y3 y4 y5 y6 y7 y8=>K .ret ((⟨nOs 4++[.one (.lo 90 .pr),.one (.li .i64 0),.one (.li .i64 20)]++nOs 69,[.box 25 [.i .i64,.i .i64,.s (.sl 42 .sp),.s .gr],.box 25 [.i .i64,.i .i64,.s (.sl 42 .sp),.s .gr]]⟩:PS).mk' [.i y1,.i y2,.l (.sl 42 .sp) y3,.l .gr y4,.i y5,.i y6,.l (.sl 42 .sp) y7,.l .gr y8])),(fun y1 y2 y3 y4 y5 y6 y7 y8 y9 aa=>K .ret ((⟨nOs 4++[.one (.o 90 .pr),.one (.i .i64),.one (.li .i64 0)]++nOs 69,[.box 25 [.i .i64,.i .i64,.s (.sl 42 .sp),.s .gr],.box 25 [.i .i64,.i .i64,.s (.sl 42 .sp),.s .gr]]⟩:PS).mk' [.l .pr y1,.i y2,.i y3,.i y4,.l (.sl 42 .sp) y5,.l .gr y6,.i y7,.i y8,.l (.sl 42 .sp) y9,.l .gr aa])))
noncomputable def dN.l0.g {γ:Type} (YK:HdK γ) (k:Nat) (K:dO→St→Option γ):List Lf→Option γ
  | [.i v1,.i v2,.i v3,.i v4,.l (.sl 42 .sp) v5,.l .gr v6,.i v7,.i v8,.l (.sl 42 .sp) v9,.l .gr v10]=>let q:=dN.l0.c YK K;dN.l0 q.1 q.2 k v1 v2 v3 v4 v5 v6 v7 v8 v9 v10
  | _=>none
noncomputable def dN.C {γ:Type}:Ctx γ:=mkC (fun k=>mkE [(78,dU.m k),(79,eP.m k),(80,gN.m k)] []) [(40,Tryz.f40)] [(40,mkA [67,74] [(0,[2,3,8,13,45,46]),(1000025,[2,3,7,8])] [(0,[4,5,6,8,13]),(1000025,[4,5,6])] [])] [⟨0,40,0,iB [(dN.l1.p,dN.l1.g)]⟩,⟨0,40,1000025,iB [(dN.l0.p,dN.l0.g)]⟩] []
theorem dN.l1.eq {γ:Type} (YK:HdK γ) (rl:Option Nat) (K:dO→St→Option γ) (c1:Int) (c3:Int) (c5:Int) (c6:Int) (c7:List (List P.S42)) (c8:List P.S44) (c9:Int) (c10:Int) (c11:List (List P.S42)) (c12:List P.S44):∀ k:Nat,(fun (v2:List P2) (v4:Int)=>dN.C.lK 0 40 0 Tryz.f40 YK rl 2 k (dN.l1.p.mk' [.i c1,.l .pr v2,.i c3,.i v4,.i c5,.i c6,.l (.sl 42 .sp) c7,.l .gr c8,.i c9,.i c10,.l (.sl 42 .sp) c11,.l .gr c12]) K)=(fun (v2:List P2) (v4:Int)=>dN.l1.g YK k K [.i c1,.l .pr v2,.i c3,.i v4,.i c5,.i c6,.l (.sl 42 .sp) c7,.l .gr c8,.i c9,.i c10,.l (.sl 42 .sp) c11,.l .gr c12]):=fE (fun R k v2 v4=>dN.l1T (dN.l1.c YK K c1 c5 c6 c7 c8 c9 c10 c11 c12).1 (dN.l1.c YK K c1 c5 c6 c7 c8 c9 c10 c11 c12).2 c3 c5 c6 c7 c8 c9 c10 c11 c12 R k v2 v4) (by kernel_rfl) (fun k=>by kernel_rfl) (fun k=>by kernel_rfl)
theorem dN.l0.eq {γ:Type} (YK:HdK γ) (rl:Option Nat) (K:dO→St→Option γ) (k:Nat) (v1:Int) (v2:Int) (v3:Int) (v4:Int) (v5:List (List P.S42)) (v6:List P.S44) (v7:Int) (v8:Int) (v9:List (List P.S42)) (v10:List P.S44):dN.C.lK 0 40 1000025 Tryz.f40 YK rl 2 k (dN.l0.p.mk' [.i v1,.i v2,.i v3,.i v4,.l (.sl 42 .sp) v5,.l .gr v6,.i v7,.i v8,.l (.sl 42 .sp) v9,.l .gr v10]) K=dN.l0.g YK k K [.i v1,.i v2,.i v3,.i v4,.l (.sl 42 .sp) v5,.l .gr v6,.i v7,.i v8,.l (.sl 42 .sp) v9,.l .gr v10]:=by kernel_rfl
theorem dN.fJ {γ:Type}:(dN.C (γ:=γ)).Ok:=⟨(all_cons (fun k=>by kernel_rfl) all_nil),(all_cons (by kernel_rfl) all_nil),all_nil⟩
theorem dN.e0 {γ:Type}:iw (dN.C (γ:=γ)) ⟨0,40,0,iB [(dN.l1.p,dN.l1.g)]⟩:=dN.fJ.jY Tryz.f40 [] (by kernel_rfl) (by kernel_rfl) (by kernel_rfl) (all_cons iN (all_cons iN all_nil)) (all_cons (fun YK rl k ls K v hv=>(show dN.l1.g YK k K ls=some v→_ from fun hv=>by
  unfold dN.l1.g at hv;split at hv
  · exact (congrFun (congrFun (dN.l1.eq YK rl K _ _ _ _ _ _ _ _ _ _ k) _) _).trans hv
  · cases hv) hv) all_nil)
theorem dN.e1 {γ:Type}:iw (dN.C (γ:=γ)) ⟨0,40,1000025,iB [(dN.l0.p,dN.l0.g)]⟩:=dN.fJ.jY Tryz.f40 [0] (by kernel_rfl) (by kernel_rfl) (by kernel_rfl) (all_cons (fun _=>dN.e0) (all_cons iN all_nil)) (all_cons (fun YK rl k ls K v hv=>(show dN.l0.g YK k K ls=some v→_ from fun hv=>by
  unfold dN.l0.g at hv;split at hv
  · exact (dN.l0.eq YK rl K k _ _ _ _ _ _ _ _ _ _).trans hv
  · cases hv) hv) all_nil)
theorem dN.ok (k:Nat):jg Tryz.prog 40 (dN.m k).s:=okW dN.fJ 0 Tryz.f40 k all_nil (fun k=>all_cons (dU.ok k) (all_cons (eP.ok k) (all_cons (gN.ok k) (all_nil)))) (all_cons ⟨Tryz.func40,by kernel_rfl⟩ all_nil) (all_cons dN.e0 (all_cons dN.e1 all_nil)) (by kernel_rfl) (by kernel_rfl) (fun a=>by kernel_rfl)
noncomputable def cZ.m (k:Nat):Sm:=jd [(.sl 23 (.sl 44 .gr))] [.own 44 .gr] (fun a=>cZ.f k a.1)
noncomputable def cZ.l0.p:PS:=⟨[.one (.s (.sl 44 .gr)),nO,nO,.one (.i .i64)]++nOs 5++[.one (.s (.sl 44 .gr)),.one (.i .i64),.one (.i .i64)]++nOs 24,[]⟩
noncomputable def cZ.l0.c {γ:Type} (YK:HdK γ) (K:dO→St→Option γ) (c1:List (List P.S44)):=(fun y1=>K (.exit 0) ((⟨[.one (.s (.sl 44 .gr)),nO,nO,.one (.i .i64)]++nOs 32,[]⟩:PS).mk' [.l (.sl 44 .gr) c1,.i y1]))
noncomputable def cZ.l0.g {γ:Type} (YK:HdK γ) (k:Nat) (K:dO→St→Option γ):List Lf→Option γ
  | [.l (.sl 44 .gr) c1,.i v2,.l (.sl 44 .gr) c3,.i c4,.i v5]=>cZ.l0 (cZ.l0.c YK K c1) c3 c4 k v2 v5
  | _=>none
noncomputable def cZ.l1.p:PS:=⟨nOs 6++[.one (.o 44 .gr)]++nOs 18++[.one (.s (.sl 44 .gr)),.one (.i .i64),.one (.i .i64)]++nOs 8,[]⟩
noncomputable def cZ.l1.c {γ:Type} (YK:HdK γ) (K:dO→St→Option γ)  := (fun y1=>K (.exit 2) ((⟨nOs 6++[.one (.o 44 .gr)]++nOs 29,[]⟩:PS).mk' [.l .gr y1]))
noncomputable def cZ.l1.g {γ:Type} (YK:HdK γ) (k:Nat) (K:dO→St→Option γ):List Lf→Option γ
  | [.l .gr v1,.l (.sl 44 .gr) c2,.i c3,.i v4]=>cZ.l1 (cZ.l1.c YK K) c2 c3 k v1 v4
  | _=>none
noncomputable def cZ.C {γ:Type}:Ctx γ:=mkC (fun k=>mkE [(130,eB.m k)] []) [(81,Tryz.f81)] [(81,mkA [31,35] [(0,[0,3,9,10,11]),(2,[6,25,26,27])] [(0,[0,3]),(2,[6])] [])] [⟨0,81,0,iB [(cZ.l0.p,cZ.l0.g)]⟩,⟨0,81,2,iB [(cZ.l1.p,cZ.l1.g)]⟩] []
theorem cZ.l0.eq {γ:Type} (YK:HdK γ) (rl:Option Nat) (K:dO→St→Option γ) (c1:List (List P.S44)) (c3:List (List P.S44)) (c4:Int):∀ k:Nat,(fun (v2:Int) (v5:Int)=>cZ.C.lK 0 81 0 Tryz.f81 YK rl 0 k (cZ.l0.p.mk' [.l (.sl 44 .gr) c1,.i v2,.l (.sl 44 .gr) c3,.i c4,.i v5]) K)=(fun (v2:Int) (v5:Int)=>cZ.l0.g YK k K [.l (.sl 44 .gr) c1,.i v2,.l (.sl 44 .gr) c3,.i c4,.i v5]):=fE (fun R k v2 v5=>cZ.l0T (cZ.l0.c YK K c1) c3 c4 R k v2 v5) (by kernel_rfl) (fun k=>by kernel_rfl) (fun k=>by kernel_rfl)
theorem cZ.l1.eq {γ:Type} (YK:HdK γ) (rl:Option Nat) (K:dO→St→Option γ) (c2:List (List P.S44)) (c3:Int):∀ k:Nat,(fun (v1:List P.S44) (v4:Int)=>cZ.C.lK 0 81 2 Tryz.f81 YK rl 0 k (cZ.l1.p.mk' [.l .gr v1,.l (.sl 44 .gr) c2,.i c3,.i v4]) K)=(fun (v1:List P.S44) (v4:Int)=>cZ.l1.g YK k K [.l .gr v1,.l (.sl 44 .gr) c2,.i c3,.i v4]):=fE (fun R k v1 v4=>cZ.l1T (cZ.l1.c YK K) c2 c3 R k v1 v4) (by kernel_rfl) (fun k=>by kernel_rfl) (fun k=>by kernel_rfl)
theorem cZ.fJ {γ:Type}:(cZ.C (γ:=γ)).Ok:=⟨(all_cons (fun k=>by kernel_rfl) all_nil),(all_cons (by kernel_rfl) all_nil),all_nil⟩
theorem cZ.e0 {γ:Type}:iw (cZ.C (γ:=γ)) ⟨0,81,0,iB [(cZ.l0.p,cZ.l0.g)]⟩:=cZ.fJ.jY Tryz.f81 [] (by kernel_rfl) (by kernel_rfl) (by kernel_rfl) (all_cons iN (all_cons iN all_nil)) (all_cons (fun YK rl k ls K v hv=>(show cZ.l0.g YK k K ls=some v→_ from fun hv=>by
  unfold cZ.l0.g at hv;split at hv
  · exact (congrFun (congrFun (cZ.l0.eq YK rl K _ _ _ k) _) _).trans hv
  · cases hv) hv) all_nil)
theorem cZ.e1 {γ:Type}:iw (cZ.C (γ:=γ)) ⟨0,81,2,iB [(cZ.l1.p,cZ.l1.g)]⟩:=cZ.fJ.jY Tryz.f81 [] (by kernel_rfl) (by kernel_rfl) (by kernel_rfl) (all_cons iN (all_cons iN all_nil)) (all_cons (fun YK rl k ls K v hv=>(show cZ.l1.g YK k K ls=some v→_ from fun hv=>by
  unfold cZ.l1.g at hv;split at hv
  · exact (congrFun (congrFun (cZ.l1.eq YK rl K _ _ k) _) _).trans hv
  · cases hv) hv) all_nil)
theorem cZ.ok (k:Nat):jg Tryz.prog 81 (cZ.m k).s:=okW cZ.fJ 0 Tryz.f81 k all_nil (fun k=>all_cons (eB.ok k) (all_nil)) (all_cons ⟨Tryz.func81,by kernel_rfl⟩ all_nil) (all_cons cZ.e0 (all_cons cZ.e1 all_nil)) (by kernel_rfl) (by kernel_rfl) (fun a=>by kernel_rfl)
end Go.Proofs.YtcomnjodjijcmaaGreat.R
