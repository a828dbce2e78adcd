/- Lemmas for laws of chapter 7: what the functions that they reach compute. No condition of its own. -/
import Derived.Test.YtcomnjodjijcmaaGreatYC9
import Derived.Test.YtcomnjodjijcmaaGreatYC10
import Derived.Test.YtcomnjodjijcmaaGreatYC12
namespace Go.Proofs.YtcomnjodjijcmaaGreat.R
open M Go.RowKit Go.Proofs.YtcomnjodjijcmaaGreatW.dB Go.Proofs.YtcomnjodjijcmaaGreatW.d9 Go.Proofs.YtcomnjodjijcmaaGreatW.eO
set_option linter.unusedVariables false
noncomputable def dH.m (k:Nat):Sm:=jm [.fm,(.int .i64),(.int .i64)] [.pl (.int .i64),.pl .bool] (fun a=>dH.f k a.1.f0 a.1.f1 a.1.f2 a.1.f3 a.2.1 a.2.2.1)
noncomputable def dH.l1.p:PS:=⟨[nO,nO,.one (.i .i64),.one (.bp 0 0)]++nOs 4++[.one (.i .i64)]++nOs 54,[.box 25 [.i .i64,.i .i64,.s (.sl 42 .sp),.s .gr]]⟩
noncomputable def dH.l1.c {γ:Type} (YK:HdK γ) (K:dQ→St→Option γ) (c3:Int) (c4:Int) (c5:List (List P.S42)) (c6:List P.S44):=((fun y1=>K .ret ((⟨nOs 6++[.one (.i .i64),.one (.lb true)]++nOs 55,[.box 25 [.i .i64,.i .i64,.s (.sl 42 .sp),.s .gr]]⟩:PS).mk' [.i y1,.i c3,.i c4,.l (.sl 42 .sp) c5,.l .gr c6])),(K (.exit 0) ((⟨nOs 63,[.box 25 [.i .i64,.i .i64,.s (.sl 42 .sp),.s .gr]]⟩:PS).mk' [.i c3,.i c4,.l (.sl 42 .sp) c5,.l .gr c6])))
noncomputable def dH.l1.g {γ:Type} (YK:HdK γ) (k:Nat) (K:dQ→St→Option γ):List Lf→Option γ
  | [.i c1,.i v2,.i c3,.i c4,.l (.sl 42 .sp) c5,.l .gr c6]=>let q:=dH.l1.c YK K c3 c4 c5 c6;dH.l1 q.1 q.2 c1 c6 k v2
  | _=>none
noncomputable def dH.l0.p:PS:=⟨[nO,nO,.one (.i .i64),.one (.bp 0 0)]++nOs 4++[.one (.i .i64)]++nOs 54,[.box 25 [.i .i64,.i .i64,.s (.sl 42 .sp),.s .gr]]⟩
noncomputable def dH.l0.c {γ:Type} (YK:HdK γ) (K:dQ→St→Option γ)  := ((fun y1 y2 y3 y4 y5=>K .ret ((⟨nOs 6++[.one (.i .i64),.one (.lb true)]++nOs 55,[.box 25 [.i .i64,.i .i64,.s (.sl 42 .sp),.s .gr]]⟩:PS).mk' [.i y1,.i y2,.i y3,.l (.sl 42 .sp) y4,.l .gr y5])),(fun y1 y2 y3 y4=>K .ret ((⟨nOs 6++[.one (.li .i64 0),.one (.lb false)]++nOs 55,[.box 25 [.i .i64,.i .i64,.s (.sl 42 .sp),.s .gr]]⟩:PS).mk' [.i y1,.i y2,.l (.sl 42 .sp) y3,.l .gr y4])))
noncomputable def dH.l0.g {γ:Type} (YK:HdK γ) (k:Nat) (K:dQ→St→Option γ):List Lf→Option γ
  | [.i v1,.i v2,.i v3,.i v4,.l (.sl 42 .sp) v5,.l .gr v6]=>let q:=dH.l0.c YK K;dH.l0 q.1 q.2 k v1 v2 v3 v4 v5 v6
  | _=>none
noncomputable def dH.l2.p:PS:=⟨[nO,nO,.one (.i .i64),.one (.bp 0 0)]++nOs 6++[.one (.i .i64)]++nOs 52,[.box 25 [.i .i64,.i .i64,.s (.sl 42 .sp),.s .gr]]⟩
noncomputable def dH.l2.c {γ:Type} (YK:HdK γ) (K:dQ→St→Option γ) (c3:Int) (c4:Int) (c5:List (List P.S42)) (c6:List P.S44):=((fun y1=>K .ret ((⟨nOs 6++[.one (.i .i64),.one (.lb true)]++nOs 55,[.box 25 [.i .i64,.i .i64,.s (.sl 42 .sp),.s .gr]]⟩:PS).mk' [.i y1,.i c3,.i c4,.l (.sl 42 .sp) c5,.l .gr c6])),(K (.exit 2) ((⟨nOs 63,[.box 25 [.i .i64,.i .i64,.s (.sl 42 .sp),.s .gr]]⟩:PS).mk' [.i c3,.i c4,.l (.sl 42 .sp) c5,.l .gr c6])))
noncomputable def dH.l2.g {γ:Type} (YK:HdK γ) (k:Nat) (K:dQ→St→Option γ):List Lf→Option γ
  | [.i c1,.i v2,.i c3,.i c4,.l (.sl 42 .sp) c5,.l .gr c6]=>let q:=dH.l2.c YK K c3 c4 c5 c6;dH.l2 q.1 q.2 c1 c3 c4 c5 c6 k v2
  | _=>none
noncomputable def dH.C {γ:Type}:Ctx γ:=mkC (fun k=>mkE [(53,gJ.m k),(104,fq.m k),(179,eY.m k),(180,jE.m k)] []) [(173,Tryz.f173)] [(173,mkA [] [(0,[2,3,8]),(2,[2,3,10]),(1000002,[2,3,8])] [(0,[6,7]),(2,[6,7]),(1000002,[1,2,3,6,7])] [])] [⟨0,173,0,iC [(dH.l1.p,dH.l1.g)]⟩,⟨0,173,1000002,iC [(dH.l0.p,dH.l0.g)]⟩,⟨0,173,2,iC [(dH.l2.p,dH.l2.g)]⟩] []
theorem dH.l1.eq {γ:Type} (YK:HdK γ) (rl:Option Nat) (K:dQ→St→Option γ) (c1:Int) (c3:Int) (c4:Int) (c5:List (List P.S42)) (c6:List P.S44):∀ k:Nat,(fun (v2:Int)=>dH.C.lK 0 173 0 Tryz.f173 YK rl 1 k (dH.l1.p.mk' [.i c1,.i v2,.i c3,.i c4,.l (.sl 42 .sp) c5,.l .gr c6]) K)=(fun (v2:Int)=>dH.l1.g YK k K [.i c1,.i v2,.i c3,.i c4,.l (.sl 42 .sp) c5,.l .gr c6]):=fF (fun R k v2=>dH.l1T (dH.l1.c YK K c3 c4 c5 c6).1 (dH.l1.c YK K c3 c4 c5 c6).2 c1 c6 R k v2) (by kernel_rfl) (fun k=>by kernel_rfl) (fun k=>by kernel_rfl)
theorem dH.l0.eq {γ:Type} (YK:HdK γ) (rl:Option Nat) (K:dQ→St→Option γ) (k:Nat) (v1:Int) (v2:Int) (v3:Int) (v4:Int) (v5:List (List P.S42)) (v6:List P.S44):dH.C.lK 0 173 1000002 Tryz.f173 YK rl 1 k (dH.l0.p.mk' [.i v1,.i v2,.i v3,.i v4,.l (.sl 42 .sp) v5,.l .gr v6]) K=dH.l0.g YK k K [.i v1,.i v2,.i v3,.i v4,.l (.sl 42 .sp) v5,.l .gr v6]:=by kernel_rfl
theorem dH.l2.eq {γ:Type} (YK:HdK γ) (rl:Option Nat) (K:dQ→St→Option γ) (c1:Int) (c3:Int) (c4:Int) (c5:List (List P.S42)) (c6:List P.S44):∀ k:Nat,(fun (v2:Int)=>dH.C.lK 0 173 2 Tryz.f173 YK rl 1 k (dH.l2.p.mk' [.i c1,.i v2,.i c3,.i c4,.l (.sl 42 .sp) c5,.l .gr c6]) K)=(fun (v2:Int)=>dH.l2.g YK k K [.i c1,.i v2,.i c3,.i c4,.l (.sl 42 .sp) c5,.l .gr c6]):=fF (fun R k v2=>dH.l2T (dH.l2.c YK K c3 c4 c5 c6).1 (dH.l2.c YK K c3 c4 c5 c6).2 c1 c3 c4 c5 c6 R k v2) (by kernel_rfl) (fun k=>by kernel_rfl) (fun k=>by kernel_rfl)
theorem dH.fH {γ:Type}:(dH.C (γ:=γ)).Ok:=⟨(all_cons (fun k=>by kernel_rfl) all_nil),(all_cons (by kernel_rfl) all_nil),all_nil⟩
theorem dH.e0 {γ:Type}:iq (dH.C (γ:=γ)) ⟨0,173,0,iC [(dH.l1.p,dH.l1.g)]⟩:=dH.fH.kg Tryz.f173 [] (by kernel_rfl) (by kernel_rfl) (by kernel_rfl) (all_cons iJ (all_cons iJ (all_cons iJ all_nil))) (all_cons (fun YK rl k ls K v hv=>(show dH.l1.g YK k K ls=some v→_ from fun hv=>by
  unfold dH.l1.g at hv;split at hv
  · exact (congrFun (dH.l1.eq YK rl K _ _ _ _ _ k) _).trans hv
  · cases hv) hv) all_nil)
theorem dH.e1 {γ:Type}:iq (dH.C (γ:=γ)) ⟨0,173,1000002,iC [(dH.l0.p,dH.l0.g)]⟩:=dH.fH.kg Tryz.f173 [0] (by kernel_rfl) (by kernel_rfl) (by kernel_rfl) (all_cons (fun _=>dH.e0) (all_cons iJ (all_cons iJ all_nil))) (all_cons (fun YK rl k ls K v hv=>(show dH.l0.g YK k K ls=some v→_ from fun hv=>by
  unfold dH.l0.g at hv;split at hv
  · exact (dH.l0.eq YK rl K k _ _ _ _ _ _).trans hv
  · cases hv) hv) all_nil)
theorem dH.e2 {γ:Type}:iq (dH.C (γ:=γ)) ⟨0,173,2,iC [(dH.l2.p,dH.l2.g)]⟩:=dH.fH.kg Tryz.f173 [] (by kernel_rfl) (by kernel_rfl) (by kernel_rfl) (all_cons iJ (all_cons iJ (all_cons iJ all_nil))) (all_cons (fun YK rl k ls K v hv=>(show dH.l2.g YK k K ls=some v→_ from fun hv=>by
  unfold dH.l2.g at hv;split at hv
  · exact (congrFun (dH.l2.eq YK rl K _ _ _ _ _ k) _).trans hv
  · cases hv) hv) all_nil)
theorem dH.ok (k:Nat):jk Tryz.prog 173 (dH.m k).s:=okW dH.fH 0 Tryz.f173 k all_nil (fun k=>all_cons (gJ.ok k) (all_cons (fq.ok k) (all_cons (eY.ok k) (all_cons (jE.ok k) (all_nil))))) (all_cons ⟨Tryz.func173,by kernel_rfl⟩ all_nil) (all_cons dH.e0 (all_cons dH.e1 (all_cons dH.e2 all_nil))) (by kernel_rfl) (by kernel_rfl) (fun a=>by kernel_rfl)
noncomputable def iT.m (k:Nat):Sm:=jm [.fm,(.int .i64)] [.pl (.int .i64),.pl .bool] (fun a=>iT.f k a.1.f0 a.1.f1 a.1.f2 a.1.f3 a.2.1)
noncomputable def iT.C {γ:Type}:Ctx γ:=mkC (fun k=>mkE [(173,dH.m k)] []) [(147,Tryz.f147)] [(147,mkA [] [] [] [])] [] []
theorem iT.fH {γ:Type}:(iT.C (γ:=γ)).Ok:=⟨(all_cons (fun k=>by kernel_rfl) all_nil),(all_cons (by kernel_rfl) all_nil),all_nil⟩
theorem iT.ok (k:Nat):jk Tryz.prog 147 (iT.m k).s:=okW iT.fH 0 Tryz.f147 k all_nil (fun k=>all_cons (dH.ok k) (all_nil)) (all_cons ⟨Tryz.func147,by kernel_rfl⟩ all_nil) all_nil (by kernel_rfl) (by kernel_rfl) (fun a=>by kernel_rfl)
noncomputable def iU.m (k:Nat):Sm:=jm [.fm,(.int .i64)] [.pl (.int .i64),.pl .bool] (fun a=>iU.f k a.1.f0 a.1.f1 a.1.f2 a.1.f3 a.2.1)
noncomputable def iU.C {γ:Type}:Ctx γ:=mkC (fun k=>mkE [(173,dH.m k)] []) [(148,Tryz.f148)] [(148,mkA [] [] [] [])] [] []
theorem iU.fH {γ:Type}:(iU.C (γ:=γ)).Ok:=⟨(all_cons (fun k=>by kernel_rfl) all_nil),(all_cons (by kernel_rfl) all_nil),all_nil⟩
theorem iU.ok (k:Nat):jk Tryz.prog 148 (iU.m k).s:=okW iU.fH 0 Tryz.f148 k all_nil (fun k=>all_cons (dH.ok k) (all_nil)) (all_cons ⟨Tryz.func148,by kernel_rfl⟩ all_nil) all_nil (by kernel_rfl) (by kernel_rfl) (fun a=>by kernel_rfl)
noncomputable def fJ.m (k:Nat):Sm:=jm [(.sl 42 .sp),(.sl 42 .sp)] [.pl .bool] (fun a=>fJ.f k a.1 a.2.1)
noncomputable def fJ.C {γ:Type}:Ctx γ:=mkC (fun k=>mkE [] []) [(149,Tryz.f149)] [(149,mkA [] [] [] [])] [] []
theorem fJ.fH {γ:Type}:(fJ.C (γ:=γ)).Ok:=⟨(all_cons (fun k=>by kernel_rfl) all_nil),(all_cons (by kernel_rfl) all_nil),all_nil⟩
theorem fJ.ok (k:Nat):jk Tryz.prog 149 (fJ.m k).s:=okW fJ.fH 0 Tryz.f149 k all_nil (fun k=>all_nil) (all_cons ⟨Tryz.func149,by kernel_rfl⟩ all_nil) all_nil (by kernel_rfl) (by kernel_rfl) (fun a=>by kernel_rfl)
noncomputable def iV.m (k:Nat):Sm:=jm [.fm,(.int .i64)] [.pl .bool] (fun a=>iV.f k a.1.f0 a.1.f1 a.1.f2 a.1.f3 a.2.1)
noncomputable def iV.C {γ:Type}:Ctx γ:=mkC (fun k=>mkE [(19,fM.m k),(147,iT.m k),(148,iU.m k),(149,fJ.m k)] []) [(111,Tryz.f111)] [(111,mkA [] [] [] [])] [] []
theorem iV.fH {γ:Type}:(iV.C (γ:=γ)).Ok:=⟨(all_cons (fun k=>by kernel_rfl) all_nil),(all_cons (by kernel_rfl) all_nil),all_nil⟩
theorem iV.ok (k:Nat):jk Tryz.prog 111 (iV.m k).s:=okW iV.fH 0 Tryz.f111 k all_nil (fun k=>all_cons (fM.ok k) (all_cons (iT.ok k) (all_cons (iU.ok k) (all_cons (fJ.ok k) (all_nil))))) (all_cons ⟨Tryz.func111,by kernel_rfl⟩ all_nil) all_nil (by kernel_rfl) (by kernel_rfl) (fun a=>by kernel_rfl)
noncomputable def dJ.m (k:Nat):Sm:=jm [.fm] [.pl (.int .i64)] (fun a=>dJ.f k a.1.f0 a.1.f1 a.1.f2 a.1.f3)
noncomputable def dJ.l1.p:PS:=⟨[nO,.one (.bp 0 0)]++nOs 27++[.one (.s .gr),.one (.i .i64),.one (.i .i64)]++nOs 9,[.box 25 [.i .i64,.i .i64,.s (.sl 42 .sp),.s .gr]]⟩
noncomputable def dJ.l1.c {γ:Type} (YK:HdK γ) (K:dQ→St→Option γ) (c4:Int) (c5:Int) (c6:List (List P.S42)) (c7:List P.S44):=((K .ret ((⟨[nO,nO,.one (.li .i64 50)]++nOs 38,[.box 25 [.i .i64,.i .i64,.s (.sl 42 .sp),.s .gr]]⟩:PS).mk' [.i c4,.i c5,.l (.sl 42 .sp) c6,.l .gr c7])),(K (.exit 0) ((⟨nOs 41,[.box 25 [.i .i64,.i .i64,.s (.sl 42 .sp),.s .gr]]⟩:PS).mk' [.i c4,.i c5,.l (.sl 42 .sp) c6,.l .gr c7])))
noncomputable def dJ.l1.g {γ:Type} (YK:HdK γ) (k:Nat) (K:dQ→St→Option γ):List Lf→Option γ
  | [.l .gr c1,.i c2,.i v3,.i c4,.i c5,.l (.sl 42 .sp) c6,.l .gr c7]=>let q:=dJ.l1.c YK K c4 c5 c6 c7;dJ.l1 q.1 q.2 c1 c2 c4 c5 c6 c7 k v3
  | _=>none
noncomputable def dJ.l0.p:PS:=⟨[nO,.one (.bp 0 0)]++nOs 39,[.box 25 [.i .i64,.i .i64,.s (.sl 42 .sp),.s .gr]]⟩
noncomputable def dJ.l0.c {γ:Type} (YK:HdK γ) (K:dQ→St→Option γ)  := ((fun y1 y2 y3 y4=>K .ret ((⟨[nO,nO,.one (.li .i64 50)]++nOs 38,[.box 25 [.i .i64,.i .i64,.s (.sl 42 .sp),.s .gr]]⟩:PS).mk' [.i y1,.i y2,.l (.sl 42 .sp) y3,.l .gr y4])),(fun y1 y2 y3 y4=>K .ret ((⟨[nO,nO,.one (.li .i64 0)]++nOs 38,[.box 25 [.i .i64,.i .i64,.s (.sl 42 .sp),.s .gr]]⟩:PS).mk' [.i y1,.i y2,.l (.sl 42 .sp) y3,.l .gr y4])))
noncomputable def dJ.l0.g {γ:Type} (YK:HdK γ) (k:Nat) (K:dQ→St→Option γ):List Lf→Option γ
  | [.i v1,.i v2,.l (.sl 42 .sp) v3,.l .gr v4]=>let q:=dJ.l0.c YK K;dJ.l0 q.1 q.2 k v1 v2 v3 v4
  | _=>none
noncomputable def dJ.C {γ:Type}:Ctx γ:=mkC (fun k=>mkE [(108,dU.m k),(109,dG.m k),(110,dM.m k),(111,iV.m k)] []) [(58,Tryz.f58)] [(58,mkA [] [(0,[1,29,30,31]),(1000010,[1])] [(0,[2]),(1000010,[2])] [])] [⟨0,58,0,iC [(dJ.l1.p,dJ.l1.g)]⟩,⟨0,58,1000010,iC [(dJ.l0.p,dJ.l0.g)]⟩] []
theorem dJ.l1.eq {γ:Type} (YK:HdK γ) (rl:Option Nat) (K:dQ→St→Option γ) (c1:List P.S44) (c2:Int) (c4:Int) (c5:Int) (c6:List (List P.S42)) (c7:List P.S44):∀ k:Nat,(fun (v3:Int)=>dJ.C.lK 0 58 0 Tryz.f58 YK rl 1 k (dJ.l1.p.mk' [.l .gr c1,.i c2,.i v3,.i c4,.i c5,.l (.sl 42 .sp) c6,.l .gr c7]) K)=(fun (v3:Int)=>dJ.l1.g YK k K [.l .gr c1,.i c2,.i v3,.i c4,.i c5,.l (.sl 42 .sp) c6,.l .gr c7]):=fF (fun R k v3=>dJ.l1T (dJ.l1.c YK K c4 c5 c6 c7).1 (dJ.l1.c YK K c4 c5 c6 c7).2 c1 c2 c4 c5 c6 c7 R k v3) (by kernel_rfl) (fun k=>by kernel_rfl) (fun k=>by kernel_rfl)
theorem dJ.l0.eq {γ:Type} (YK:HdK γ) (rl:Option Nat) (K:dQ→St→Option γ) (k:Nat) (v1:Int) (v2:Int) (v3:List (List P.S42)) (v4:List P.S44):dJ.C.lK 0 58 1000010 Tryz.f58 YK rl 1 k (dJ.l0.p.mk' [.i v1,.i v2,.l (.sl 42 .sp) v3,.l .gr v4]) K=dJ.l0.g YK k K [.i v1,.i v2,.l (.sl 42 .sp) v3,.l .gr v4]:=by kernel_rfl
theorem dJ.fH {γ:Type}:(dJ.C (γ:=γ)).Ok:=⟨(all_cons (fun k=>by kernel_rfl) all_nil),(all_cons (by kernel_rfl) all_nil),all_nil⟩
theorem dJ.e0 {γ:Type}:iq (dJ.C (γ:=γ)) ⟨0,58,0,iC [(dJ.l1.p,dJ.l1.g)]⟩:=dJ.fH.kg Tryz.f58 [] (by kernel_rfl) (by kernel_rfl) (by kernel_rfl) (all_cons iJ (all_cons iJ all_nil)) (all_cons (fun YK rl k ls K v hv=>(show dJ.l1.g YK k K ls=some v→_ from fun hv=>by
  unfold dJ.l1.g at hv;split at hv
  · exact (congrFun (dJ.l1.eq YK rl K _ _ _ _ _ _ k) _).trans hv
  · cases hv) hv) all_nil)
theorem dJ.e1 {γ:Type}:iq (dJ.C (γ:=γ)) ⟨0,58,1000010,iC [(dJ.l0.p,dJ.l0.g)]⟩:=dJ.fH.kg Tryz.f58 [0] (by kernel_rfl) (by kernel_rfl) (by kernel_rfl) (all_cons (fun _=>dJ.e0) (all_cons iJ all_nil)) (all_cons (fun YK rl k ls K v hv=>(show dJ.l0.g YK k K ls=some v→_ from fun hv=>by
  unfold dJ.l0.g at hv;split at hv
  · exact (dJ.l0.eq YK rl K k _ _ _ _).trans hv
  · cases hv) hv) all_nil)
theorem dJ.ok (k:Nat):jk Tryz.prog 58 (dJ.m k).s:=okW dJ.fH 0 Tryz.f58 k all_nil (fun k=>all_cons (dU.ok k) (all_cons (dG.ok k) (all_cons (dM.ok k) (all_cons (iV.ok k) (all_nil))))) (all_cons ⟨Tryz.func58,by kernel_rfl⟩ all_nil) (all_cons dJ.e0 (all_cons dJ.e1 all_nil)) (by kernel_rfl) (by kernel_rfl) (fun a=>by kernel_rfl)
noncomputable def fO.m (k:Nat):Sm:=jm [.fm] [.pl .bool] (fun a=>fO.f k a.1.f0 a.1.f1 a.1.f2 a.1.f3)
noncomputable def fO.C {γ:Type}:Ctx γ:=mkC (fun k=>mkE [(108,dU.m k)] []) [(68,Tryz.f68)] [(68,mkA [] [] [] [])] [] []
theorem fO.fH {γ:Type}:(fO.C (γ:=γ)).Ok:=⟨(all_cons (fun k=>by kernel_rfl) all_nil),(all_cons (by kernel_rfl) all_nil),all_nil⟩
theorem fO.ok (k:Nat):jk Tryz.prog 68 (fO.m k).s:=okW fO.fH 0 Tryz.f68 k all_nil (fun k=>all_cons (dU.ok k) (all_nil)) (all_cons ⟨Tryz.func68,by kernel_rfl⟩ all_nil) all_nil (by kernel_rfl) (by kernel_rfl) (fun a=>by kernel_rfl)
noncomputable def gH.m (k:Nat):Sm:=jm [.fm] [.pl .bool] (fun a=>gH.f k a.1.f0 a.1.f1 a.1.f2 a.1.f3)
noncomputable def gH.C {γ:Type}:Ctx γ:=mkC (fun k=>mkE [(58,dJ.m k),(68,fO.m k)] []) [(27,Tryz.f27)] [(27,mkA [] [] [] [])] [] []
theorem gH.fH {γ:Type}:(gH.C (γ:=γ)).Ok:=⟨(all_cons (fun k=>by kernel_rfl) all_nil),(all_cons (by kernel_rfl) all_nil),all_nil⟩
theorem gH.ok (k:Nat):jk Tryz.prog 27 (gH.m k).s:=okW gH.fH 0 Tryz.f27 k all_nil (fun k=>all_cons (dJ.ok k) (all_cons (fO.ok k) (all_nil))) (all_cons ⟨Tryz.func27,by kernel_rfl⟩ all_nil) all_nil (by kernel_rfl) (by kernel_rfl) (fun a=>by kernel_rfl)
noncomputable def iG.m (k:Nat):Sm:=jm [(.sl 42 .sp)] [.pl .sp,.pl .bool] (fun a=>iG.f k a.1)
noncomputable def iG.C {γ:Type}:Ctx γ:=mkC (fun k=>mkE [] []) [(28,Tryz.f28)] [(28,mkA [] [] [] [])] [] []
theorem iG.fH {γ:Type}:(iG.C (γ:=γ)).Ok:=⟨(all_cons (fun k=>by kernel_rfl) all_nil),(all_cons (by kernel_rfl) all_nil),all_nil⟩
theorem iG.ok (k:Nat):jk Tryz.prog 28 (iG.m k).s:=okW iG.fH 0 Tryz.f28 k all_nil (fun k=>all_nil) (all_cons ⟨Tryz.func28,by kernel_rfl⟩ all_nil) all_nil (by kernel_rfl) (by kernel_rfl) (fun a=>by kernel_rfl)
noncomputable def dz.m (k:Nat):Sm:=jm [.fm] [.pl .bool] (fun a=>dz.f k a.1.f0 a.1.f1 a.1.f2 a.1.f3)
noncomputable def dz.l0.p:PS:=⟨[nO,.one (.bp 0 0)]++nOs 18++[.one (.s (.sl 42 .sp)),.one (.i .i64),.one (.i .i64)]++nOs 55,[.box 25 [.i .i64,.i .i64,.s (.sl 42 .sp),.s .gr]]⟩
noncomputable def dz.l0.c {γ:Type} (YK:HdK γ) (K:dQ→St→Option γ) (c4:Int) (c5:Int) (c6:List (List P.S42)) (c7:List P.S44):=((K .ret ((⟨[nO,.one (.bp 0 0),.one (.lb false)]++nOs 75,[.box 25 [.i .i64,.i .i64,.s (.sl 42 .sp),.s .gr]]⟩:PS).mk' [.i c4,.i c5,.l (.sl 42 .sp) c6,.l .gr c7])),(K (.exit 0) ((⟨[nO,.one (.bp 0 0)]++nOs 76,[.box 25 [.i .i64,.i .i64,.s (.sl 42 .sp),.s .gr]]⟩:PS).mk' [.i c4,.i c5,.l (.sl 42 .sp) c6,.l .gr c7])))
noncomputable def dz.l0.g {γ:Type} (YK:HdK γ) (k:Nat) (K:dQ→St→Option γ):List Lf→Option γ
  | [.l (.sl 42 .sp) c1,.i c2,.i v3,.i c4,.i c5,.l (.sl 42 .sp) c6,.l .gr c7]=>let q:=dz.l0.c YK K c4 c5 c6 c7;dz.l0 q.1 q.2 c1 c2 k v3
  | _=>none
noncomputable def dz.l1.p:PS:=⟨nOs 44++[.one (.s .gr),.one (.i .i64),.one (.i .i64)]++nOs 31,[.box 25 [.i .i64,.i .i64,.s (.sl 42 .sp),.s .gr]]⟩
noncomputable def dz.l1.c {γ:Type} (YK:HdK γ) (K:dQ→St→Option γ) (c4:Int) (c5:Int) (c6:List (List P.S42)) (c7:List P.S44):=((K .ret ((⟨[nO,nO,.one (.lb false)]++nOs 75,[.box 25 [.i .i64,.i .i64,.s (.sl 42 .sp),.s .gr]]⟩:PS).mk' [.i c4,.i c5,.l (.sl 42 .sp) c6,.l .gr c7])),(K (.exit 2) ((⟨nOs 78,[.box 25 [.i .i64,.i .i64,.s (.sl 42 .sp),.s .gr]]⟩:PS).mk' [.i c4,.i c5,.l (.sl 42 .sp) c6,.l .gr c7])))
noncomputable def dz.l1.g {γ:Type} (YK:HdK γ) (k:Nat) (K:dQ→St→Option γ):List Lf→Option γ
  | [.l .gr c1,.i c2,.i v3,.i c4,.i c5,.l (.sl 42 .sp) c6,.l .gr c7]=>let q:=dz.l1.c YK K c4 c5 c6 c7;dz.l1 q.1 q.2 c1 c2 k v3
  | _=>none
noncomputable def dz.C {γ:Type}:Ctx γ:=mkC (fun k=>mkE [(27,gH.m k),(28,iG.m k)] []) [(8,Tryz.f8)] [(8,mkA [] [(0,[1,20,21,22]),(2,[44,45,46])] [(0,[1,2]),(2,[2])] [])] [⟨0,8,0,iC [(dz.l0.p,dz.l0.g)]⟩,⟨0,8,2,iC [(dz.l1.p,dz.l1.g)]⟩] []
theorem dz.l0.eq {γ:Type} (YK:HdK γ) (rl:Option Nat) (K:dQ→St→Option γ) (c1:List (List P.S42)) (c2:Int) (c4:Int) (c5:Int) (c6:List (List P.S42)) (c7:List P.S44):∀ k:Nat,(fun (v3:Int)=>dz.C.lK 0 8 0 Tryz.f8 YK rl 1 k (dz.l0.p.mk' [.l (.sl 42 .sp) c1,.i c2,.i v3,.i c4,.i c5,.l (.sl 42 .sp) c6,.l .gr c7]) K)=(fun (v3:Int)=>dz.l0.g YK k K [.l (.sl 42 .sp) c1,.i c2,.i v3,.i c4,.i c5,.l (.sl 42 .sp) c6,.l .gr c7]):=fF (fun R k v3=>dz.l0T (dz.l0.c YK K c4 c5 c6 c7).1 (dz.l0.c YK K c4 c5 c6 c7).2 c1 c2 R k v3) (by kernel_rfl) (fun k=>by kernel_rfl) (fun k=>by kernel_rfl)
theorem dz.l1.eq {γ:Type} (YK:HdK γ) (rl:Option Nat) (K:dQ→St→Option γ) (c1:List P.S44) (c2:Int) (c4:Int) (c5:Int) (c6:List (List P.S42)) (c7:List P.S44):∀ k:Nat,(fun (v3:Int)=>dz.C.lK 0 8 2 Tryz.f8 YK rl 1 k (dz.l1.p.mk' [.l .gr c1,.i c2,.i v3,.i c4,.i c5,.l (.sl 42 .sp) c6,.l .gr c7]) K)=(fun (v3:Int)=>dz.l1.g YK k K [.l .gr c1,.i c2,.i v3,.i c4,.i c5,.l (.sl 42 .sp) c6,.l .gr c7]):=fF (fun R k v3=>dz.l1T (dz.l1.c YK K c4 c5 c6 c7).1 (dz.l1.c YK K c4 c5 c6 c7).2 c1 c2 R k v3) (by kernel_rfl) (fun k=>by kernel_rfl) (fun k=>by kernel_rfl)
theorem dz.fH {γ:Type}:(dz.C (γ:=γ)).Ok:=⟨(all_cons (fun k=>by kernel_rfl) all_nil),(all_cons (by kernel_rfl) all_nil),all_nil⟩
theorem dz.e0 {γ:Type}:iq (dz.C (γ:=γ)) ⟨0,8,0,iC [(dz.l0.p,dz.l0.g)]⟩:=dz.fH.kg Tryz.f8 [] (by kernel_rfl) (by kernel_rfl) (by kernel_rfl) (all_cons iJ (all_cons iJ all_nil)) (all_cons (fun YK rl k ls K v hv=>(show dz.l0.g YK k K ls=some v→_ from fun hv=>by
  unfold dz.l0.g at hv;split at hv
  · exact (congrFun (dz.l0.eq YK rl K _ _ _ _ _ _ k) _).trans hv
  · cases hv) hv) all_nil)
theorem dz.e1 {γ:Type}:iq (dz.C (γ:=γ)) ⟨0,8,2,iC [(dz.l1.p,dz.l1.g)]⟩:=dz.fH.kg Tryz.f8 [] (by kernel_rfl) (by kernel_rfl) (by kernel_rfl) (all_cons iJ (all_cons iJ all_nil)) (all_cons (fun YK rl k ls K v hv=>(show dz.l1.g YK k K ls=some v→_ from fun hv=>by
  unfold dz.l1.g at hv;split at hv
  · exact (congrFun (dz.l1.eq YK rl K _ _ _ _ _ _ k) _).trans hv
  · cases hv) hv) all_nil)
theorem dz.ok (k:Nat):jk Tryz.prog 8 (dz.m k).s:=okW dz.fH 0 Tryz.f8 k all_nil (fun k=>all_cons (gH.ok k) (all_cons (iG.ok k) (all_nil))) (all_cons ⟨Tryz.func8,by kernel_rfl⟩ all_nil) (all_cons dz.e0 (all_cons dz.e1 all_nil)) (by kernel_rfl) (by kernel_rfl) (fun a=>by kernel_rfl)
noncomputable def iH.m (k:Nat):Sm:=jm [(.sl 42 .sp)] [.pl .bool] (fun a=>iH.f k a.1)
noncomputable def iH.C {γ:Type}:Ctx γ:=mkC (fun k=>mkE [] []) [(122,Tryz.f122)] [(122,mkA [] [] [] [])] [] []
theorem iH.fH {γ:Type}:(iH.C (γ:=γ)).Ok:=⟨(all_cons (fun k=>by kernel_rfl) all_nil),(all_cons (by kernel_rfl) all_nil),all_nil⟩
theorem iH.ok (k:Nat):jk Tryz.prog 122 (iH.m k).s:=okW iH.fH 0 Tryz.f122 k all_nil (fun k=>all_nil) (all_cons ⟨Tryz.func122,by kernel_rfl⟩ all_nil) all_nil (by kernel_rfl) (by kernel_rfl) (fun a=>by kernel_rfl)
noncomputable def eH.m (k:Nat):Sm:=jm [.fm] [.pl .bool] (fun a=>eH.f k a.1.f0 a.1.f1 a.1.f2 a.1.f3)
noncomputable def eH.l0.p:PS:=⟨[.one (.s (.sl 42 .sp)),.one (.fn 122 [])]++nOs 5++[.one (.i .i64),.one (.i .i64)]++nOs 10,[.box 25 [.i .i64,.i .i64,.s (.sl 42 .sp),.s .gr]]⟩
noncomputable def eH.l0.c {γ:Type} (YK:HdK γ) (K:dQ→St→Option γ) (c4:Int) (c5:Int) (c6:List (List P.S42)) (c7:List P.S44):=((fun y1=>K .ret ((⟨nOs 4++[.one (.i .i64)]++nOs 14,[.box 25 [.i .i64,.i .i64,.s (.sl 42 .sp),.s .gr]]⟩:PS).mk' [.i y1,.i c4,.i c5,.l (.sl 42 .sp) c6,.l .gr c7])),(K (.exit 0) ((⟨nOs 19,[.box 25 [.i .i64,.i .i64,.s (.sl 42 .sp),.s .gr]]⟩:PS).mk' [.i c4,.i c5,.l (.sl 42 .sp) c6,.l .gr c7])))
noncomputable def eH.l0.g {γ:Type} (YK:HdK γ) (k:Nat) (K:dQ→St→Option γ):List Lf→Option γ
  | [.l (.sl 42 .sp) c1,.i c2,.i v3,.i c4,.i c5,.l (.sl 42 .sp) c6,.l .gr c7]=>let q:=eH.l0.c YK K c4 c5 c6 c7;eH.l0 q.1 q.2 c1 c2 k v3
  | _=>none
noncomputable def eH.C {γ:Type}:Ctx γ:=mkC (fun k=>mkE [(122,iH.m k)] []) [(74,Tryz.f74),(112,Tryz.f112),(150,Tryz.f150)] [(74,mkA [] [] [] []),(112,mkA [] [] [] []),(150,mkA [] [(0,[0,1,7,8])] [(0,[4])] [])] [⟨0,150,0,iC [(eH.l0.p,eH.l0.g)]⟩] []
theorem eH.l0.eq {γ:Type} (YK:HdK γ) (rl:Option Nat) (K:dQ→St→Option γ) (c1:List (List P.S42)) (c2:Int) (c4:Int) (c5:Int) (c6:List (List P.S42)) (c7:List P.S44):∀ k:Nat,(fun (v3:Int)=>eH.C.lK 0 150 0 Tryz.f150 YK rl 1 k (eH.l0.p.mk' [.l (.sl 42 .sp) c1,.i c2,.i v3,.i c4,.i c5,.l (.sl 42 .sp) c6,.l .gr c7]) K)=(fun (v3:Int)=>eH.l0.g YK k K [.l (.sl 42 .sp) c1,.i c2,.i v3,.i c4,.i c5,.l (.sl 42 .sp) c6,.l .gr c7]):=fF (fun R k v3=>eH.l0T (eH.l0.c YK K c4 c5 c6 c7).1 (eH.l0.c YK K c4 c5 c6 c7).2 c1 c2 R k v3) (by kernel_rfl) (fun k=>by kernel_rfl) (fun k=>by kernel_rfl)
theorem eH.fH {γ:Type}:(eH.C (γ:=γ)).Ok:=⟨(all_cons (fun k=>by kernel_rfl) (all_cons (fun k=>by kernel_rfl) (all_cons (fun k=>by kernel_rfl) all_nil))),(all_cons (by kernel_rfl) (all_cons (by kernel_rfl) (all_cons (by kernel_rfl) all_nil))),all_nil⟩
theorem eH.e0 {γ:Type}:iq (eH.C (γ:=γ)) ⟨0,150,0,iC [(eH.l0.p,eH.l0.g)]⟩:=eH.fH.kg Tryz.f150 [] (by kernel_rfl) (by kernel_rfl) (by kernel_rfl) (all_cons iJ all_nil) (all_cons (fun YK rl k ls K v hv=>(show eH.l0.g YK k K ls=some v→_ from fun hv=>by
  unfold eH.l0.g at hv;split at hv
  · exact (congrFun (eH.l0.eq YK rl K _ _ _ _ _ _ k) _).trans hv
  · cases hv) hv) all_nil)
theorem eH.ok (k:Nat):jk Tryz.prog 74 (eH.m k).s:=okW eH.fH 2 Tryz.f74 k all_nil (fun k=>all_cons (iH.ok k) (all_nil)) (all_cons ⟨Tryz.func74,by kernel_rfl⟩ (all_cons ⟨Tryz.func112,by kernel_rfl⟩ (all_cons ⟨Tryz.func150,by kernel_rfl⟩ all_nil))) (all_cons eH.e0 all_nil) (by kernel_rfl) (by kernel_rfl) (fun a=>by kernel_rfl)
noncomputable def dR.m (k:Nat):Sm:=jm [(.sl 42 .sp),(.sl 42 .sp),(.int .i64)] [.pl .bool] (fun a=>dR.f k a.1 a.2.1 a.2.2.1)
noncomputable def dR.l0.p:PS:=⟨[nO,.one (.s .sp),.one (.fn 156 [0])]++nOs 12++[.one (.s .sp),.one (.i .i64),.one (.i .i64)]++nOs 14,[.box 3 [.i .i64]]⟩
noncomputable def dR.l0.c {γ:Type} (YK:HdK γ) (K:dQ→St→Option γ) (c5:Int):=((K .ret ((⟨nOs 6++[.one (.lb false)]++nOs 25,[.box 3 [.i .i64]]⟩:PS).mk' [.i c5])),(K (.exit 0) ((⟨nOs 32,[.box 3 [.i .i64]]⟩:PS).mk' [.i c5])))
noncomputable def dR.l0.g {γ:Type} (YK:HdK γ) (k:Nat) (K:dQ→St→Option γ):List Lf→Option γ
  | [.l .sp c1,.l .sp c2,.i c3,.i v4,.i c5]=>let q:=dR.l0.c YK K c5;dR.l0 q.1 q.2 c1 c2 c3 c5 k v4
  | _=>none
noncomputable def dR.C {γ:Type}:Ctx γ:=mkC (fun k=>mkE [] []) [(124,Tryz.f124),(155,Tryz.f155),(156,Tryz.f156)] [(124,mkA [] [] [] []),(155,mkA [] [(0,[1,2,15,16,17])] [(0,[6])] []),(156,mkA [] [] [] [])] [⟨1,155,0,iC [(dR.l0.p,dR.l0.g)]⟩] []
theorem dR.l0.eq {γ:Type} (YK:HdK γ) (rl:Option Nat) (K:dQ→St→Option γ) (c1:List P.S42) (c2:List P.S42) (c3:Int) (c5:Int):∀ k:Nat,(fun (v4:Int)=>dR.C.lK 1 155 0 Tryz.f155 YK rl 1 k (dR.l0.p.mk' [.l .sp c1,.l .sp c2,.i c3,.i v4,.i c5]) K)=(fun (v4:Int)=>dR.l0.g YK k K [.l .sp c1,.l .sp c2,.i c3,.i v4,.i c5]):=fF (fun R k v4=>dR.l0T (dR.l0.c YK K c5).1 (dR.l0.c YK K c5).2 c1 c2 c3 c5 R k v4) (by kernel_rfl) (fun k=>by kernel_rfl) (fun k=>by kernel_rfl)
theorem dR.fH {γ:Type}:(dR.C (γ:=γ)).Ok:=⟨(all_cons (fun k=>by kernel_rfl) (all_cons (fun k=>by kernel_rfl) (all_cons (fun k=>by kernel_rfl) all_nil))),(all_cons (by kernel_rfl) (all_cons (by kernel_rfl) (all_cons (by kernel_rfl) all_nil))),all_nil⟩
theorem dR.e0 {γ:Type}:iq (dR.C (γ:=γ)) ⟨1,155,0,iC [(dR.l0.p,dR.l0.g)]⟩:=dR.fH.kg Tryz.f155 [] (by kernel_rfl) (by kernel_rfl) (by kernel_rfl) (all_cons iJ all_nil) (all_cons (fun YK rl k ls K v hv=>(show dR.l0.g YK k K ls=some v→_ from fun hv=>by
  unfold dR.l0.g at hv;split at hv
  · exact (congrFun (dR.l0.eq YK rl K _ _ _ _ k) _).trans hv
  · cases hv) hv) all_nil)
theorem dR.ok (k:Nat):jk Tryz.prog 124 (dR.m k).s:=okW dR.fH 2 Tryz.f124 k all_nil (fun k=>all_nil) (all_cons ⟨Tryz.func124,by kernel_rfl⟩ (all_cons ⟨Tryz.func155,by kernel_rfl⟩ (all_cons ⟨Tryz.func156,by kernel_rfl⟩ all_nil))) (all_cons dR.e0 all_nil) (by kernel_rfl) (by kernel_rfl) (fun a=>by kernel_rfl)
noncomputable def eu.m (k:Nat):Sm:=jm [.fm,(.int .i64),(.int .i64)] [.pl .bool] (fun a=>eu.f k a.1.f0 a.1.f1 a.1.f2 a.1.f3 a.2.1 a.2.2.1)
noncomputable def eu.l0.p:PS:=⟨[nO,.one (.i .i64),.one (.i .i64),.one (.bp 0 0)]++nOs 8++[.one (.s (.sl 42 .sp)),.one (.i .i64),.one (.i .i64)]++nOs 29,[.box 25 [.i .i64,.i .i64,.s (.sl 42 .sp),.s .gr]]⟩
noncomputable def eu.l0.c {γ:Type} (YK:HdK γ) (K:dQ→St→Option γ) (c6:Int) (c7:Int) (c8:List (List P.S42)) (c9:List P.S44):=((K .ret ((⟨nOs 6++[.one (.lb false)]++nOs 37,[.box 25 [.i .i64,.i .i64,.s (.sl 42 .sp),.s .gr]]⟩:PS).mk' [.i c6,.i c7,.l (.sl 42 .sp) c8,.l .gr c9])),(K (.exit 0) ((⟨nOs 44,[.box 25 [.i .i64,.i .i64,.s (.sl 42 .sp),.s .gr]]⟩:PS).mk' [.i c6,.i c7,.l (.sl 42 .sp) c8,.l .gr c9])))
noncomputable def eu.l0.g {γ:Type} (YK:HdK γ) (k:Nat) (K:dQ→St→Option γ):List Lf→Option γ
  | [.i c1,.i c2,.l (.sl 42 .sp) c3,.i c4,.i v5,.i c6,.i c7,.l (.sl 42 .sp) c8,.l .gr c9]=>let q:=eu.l0.c YK K c6 c7 c8 c9;eu.l0 q.1 q.2 c1 c2 c3 c4 c6 c7 c8 k v5
  | _=>none
noncomputable def eu.C {γ:Type}:Ctx γ:=mkC (fun k=>mkE [(124,dR.m k)] []) [(76,Tryz.f76)] [(76,mkA [] [(0,[1,2,3,12,13,14])] [(0,[6])] [])] [⟨0,76,0,iC [(eu.l0.p,eu.l0.g)]⟩] []
theorem eu.l0.eq {γ:Type} (YK:HdK γ) (rl:Option Nat) (K:dQ→St→Option γ) (c1:Int) (c2:Int) (c3:List (List P.S42)) (c4:Int) (c6:Int) (c7:Int) (c8:List (List P.S42)) (c9:List P.S44):∀ k:Nat,(fun (v5:Int)=>eu.C.lK 0 76 0 Tryz.f76 YK rl 1 k (eu.l0.p.mk' [.i c1,.i c2,.l (.sl 42 .sp) c3,.i c4,.i v5,.i c6,.i c7,.l (.sl 42 .sp) c8,.l .gr c9]) K)=(fun (v5:Int)=>eu.l0.g YK k K [.i c1,.i c2,.l (.sl 42 .sp) c3,.i c4,.i v5,.i c6,.i c7,.l (.sl 42 .sp) c8,.l .gr c9]):=fF (fun R k v5=>eu.l0T (eu.l0.c YK K c6 c7 c8 c9).1 (eu.l0.c YK K c6 c7 c8 c9).2 c1 c2 c3 c4 c6 c7 c8 R k v5) (by kernel_rfl) (fun k=>by kernel_rfl) (fun k=>by kernel_rfl)
theorem eu.fH {γ:Type}:(eu.C (γ:=γ)).Ok:=⟨(all_cons (fun k=>by kernel_rfl) all_nil),(all_cons (by kernel_rfl) all_nil),all_nil⟩
theorem eu.e0 {γ:Type}:iq (eu.C (γ:=γ)) ⟨0,76,0,iC [(eu.l0.p,eu.l0.g)]⟩:=eu.fH.kg Tryz.f76 [] (by kernel_rfl) (by kernel_rfl) (by kernel_rfl) (all_cons iJ all_nil) (all_cons (fun YK rl k ls K v hv=>(show eu.l0.g YK k K ls=some v→_ from fun hv=>by
  unfold eu.l0.g at hv;split at hv
  · exact (congrFun (eu.l0.eq YK rl K _ _ _ _ _ _ _ _ k) _).trans hv
  · cases hv) hv) all_nil)
theorem eu.ok (k:Nat):jk Tryz.prog 76 (eu.m k).s:=okW eu.fH 0 Tryz.f76 k all_nil (fun k=>all_cons (dR.ok k) (all_nil)) (all_cons ⟨Tryz.func76,by kernel_rfl⟩ all_nil) (all_cons eu.e0 all_nil) (by kernel_rfl) (by kernel_rfl) (fun a=>by kernel_rfl)
end Go.Proofs.YtcomnjodjijcmaaGreat.R
namespace Go.Proofs.YtcomnjodjijcmaaGreat.R
open M Go.RowKit Go.Proofs.YtcomnjodjijcmaaGreatW.dB Go.Proofs.YtcomnjodjijcmaaGreatW.d9 Go.Proofs.YtcomnjodjijcmaaGreatW.eO
set_option linter.unusedVariables false
noncomputable def dI.m (k:Nat):Sm:=jm [.fm] [.pl .fm] (fun a=>dI.f k a.1.f0 a.1.f1 a.1.f2 a.1.f3)
noncomputable def dI.y0.p0:List PB:=[.box 25 [.i .i64,.i .i64,.s (.sl 42 .sp),.s .gr],.box 25 [.li .i64 0,.li .i64 0,.lo 37 (.sl 42 .sp),.lo 44 .gr],.box 25 [.li .i64 0,.li .i64 0,.lo 37 (.sl 42 .sp),.lo 44 .gr],.box 3 [.i .i64],.lp .normal]
noncomputable def dI.y0.p1:List PB:=[.box 25 [.i .i64,.i .i64,.s (.sl 42 .sp),.s .gr],.box 25 [.li .i64 0,.li .i64 0,.lo 37 (.sl 42 .sp),.lo 44 .gr],.box 25 [.i .i64,.i .i64,.o 37 (.sl 42 .sp),.lo 44 .gr],.box 3 [.i .i64],.lp (.exit 0)]
noncomputable def dI.y0 {γ:Type} (x:AV) (bx:List Bx) (x0:Int→Int→(List (List P.S42))→(List P.S44)→Int→Option γ) (x1:Int→Int→(List (List P.S42))→(List P.S44)→Int→Int→(List (List P.S42))→Int→Option γ):Option γ :=
  match yrd true dI.y0.p0 x bx with
  | some [.i z1,.i z2,.l (.sl 42 .sp) z3,.l .gr z4,.i z5]=>(x0 z1 z2 z3 z4 z5)
  | _=>match yrd false dI.y0.p1 x bx with
  | some [.i z1,.i z2,.l (.sl 42 .sp) z3,.l .gr z4,.i z5,.i z6,.l (.sl 42 .sp) z7,.i z8]=>(x1 z1 z2 z3 z4 z5 z6 z7 z8)
  | _=>none
noncomputable def dI.y0T {γ:Type}:YdK γ:=fun K x bx=>dI.y0 x bx (fun z1 z2 z3 z4 z5=>K (lW true) (xK dI.y0.p0 [.i z1,.i z2,.l (.sl 42 .sp) z3,.l .gr z4,.i z5]).1) (fun z1 z2 z3 z4 z5 z6 z7 z8=>K (lW false) (xK dI.y0.p1 [.i z1,.i z2,.l (.sl 42 .sp) z3,.l .gr z4,.i z5,.i z6,.l (.sl 42 .sp) z7,.i z8]).1)
theorem dI.oH {γ:Type}:aar (dI.y0T (γ:=γ)):=fun K x bx v h=>by
  unfold dI.y0T dI.y0 at h;split at h
  · rename_i hy
    obtain ⟨rfl,rfl⟩:=oG hy;exact h
  · split at h
    · rename_i hy
      obtain ⟨rfl,rfl⟩:=oG hy;exact h
    · cases h
noncomputable def dI.l0.p:PS:=⟨[.one (.yl 4),.one (.bp 3 0),nO,.one (.i .i64)]++nOs 15,[.box 25 [.i .i64,.i .i64,.s (.sl 42 .sp),.s .gr],.box 25 [.li .i64 0,.li .i64 0,.lo 37 (.sl 42 .sp),.lo 44 .gr],.box 25 [.li .i64 0,.li .i64 0,.lo 37 (.sl 42 .sp),.lo 44 .gr],.box 3 [.i .i64],.lp .normal]⟩
noncomputable def dI.l0.c {γ:Type} (YK:HdK γ) (K:dQ→St→Option γ)  := ((fun q0 q1 q2 q3 q4 q5 x0 x1=>(YK 4).bind fun h=>h [.pt (.one (.v (.int .i64 q0)))] [.box 25 [.v (.int .i64 q1),.v (.int .i64 q2),.sl (.sl 42 .sp) q3,.sl .gr q4],.box 25 [.v (.int .i64 0),.v (.int .i64 0),.ow 37 (.sl 42 .sp) [],.ow 44 .gr []],.box 25 [.v (.int .i64 0),.v (.int .i64 0),.ow 37 (.sl 42 .sp) [],.ow 44 .gr []],.box 3 [.v (.int .i64 q5)],.lp .normal] (fun x bx=>dI.y0 x bx x0 x1)),(fun y1 y2 y3 y4 y5 y6 y7 y8=>K .ret ((⟨nOs 19,[.box 25 [.i .i64,.i .i64,.s (.sl 42 .sp),.s .gr],.box 25 [.li .i64 0,.li .i64 0,.lo 37 (.sl 42 .sp),.lo 44 .gr],.box 25 [.i .i64,.i .i64,.o 37 (.sl 42 .sp),.lo 44 .gr],.box 3 [.i .i64],.lp (.exit 0)]⟩:PS).mk' [.i y1,.i y2,.l (.sl 42 .sp) y3,.l .gr y4,.i y5,.i y6,.l (.sl 42 .sp) y7,.i y8])),(fun y1 y2 y3 y4 y5=>K (.exit 0) ((⟨nOs 19,[.box 25 [.i .i64,.i .i64,.s (.sl 42 .sp),.s .gr],.box 25 [.li .i64 0,.li .i64 0,.lo 37 (.sl 42 .sp),.lo 44 .gr],.box 25 [.li .i64 0,.li .i64 0,.lo 37 (.sl 42 .sp),.lo 44 .gr],.box 3 [.i .i64],.lp .normal]⟩:PS).mk' [.i y1,.i y2,.l (.sl 42 .sp) y3,.l .gr y4,.i y5])))
noncomputable def dI.l0.g {γ:Type} (YK:HdK γ) (k:Nat) (K:dQ→St→Option γ):List Lf→Option γ
  | [.i v1,.i v2,.i v3,.l (.sl 42 .sp) v4,.l .gr v5,.i v6]=>let q:=dI.l0.c YK K;dI.l0 q.1 q.2.1 q.2.2 k v1 v2 v3 v4 v5 v6
  | _=>none
noncomputable def dI.l1.p:PS:=⟨[nO,nO,.one (.bp 1 0),.one (.bp 2 0)]++nOs 41++[.one (.s (.sl 42 .sp)),.one (.i .i64),.one (.i .i64)]++nOs 12,[.box 25 [.i .i64,.i .i64,.s (.sl 42 .sp),.s .gr],.box 25 [.li .i64 0,.li .i64 0,.lo 37 (.sl 42 .sp),.lo 44 .gr],.box 25 [.i .i64,.i .i64,.o 37 (.sl 42 .sp),.lo 44 .gr],.box 3 [.i .i64],.lpb]⟩
noncomputable def dI.l1.c {γ:Type} (YK:HdK γ) (K:dQ→St→Option γ) (c4:Int) (c5:Int) (c6:List (List P.S42)) (c7:List P.S44) (c8:Int) (c9:Int) (c11:Int):=(fun y1=>K (.exit 2) ((⟨[nO,nO,.one (.bp 1 0),.one (.bp 2 0)]++nOs 56,[.box 25 [.i .i64,.i .i64,.s (.sl 42 .sp),.s .gr],.box 25 [.li .i64 0,.li .i64 0,.lo 37 (.sl 42 .sp),.lo 44 .gr],.box 25 [.i .i64,.i .i64,.o 37 (.sl 42 .sp),.lo 44 .gr],.box 3 [.i .i64],.lpb]⟩:PS).mk' [.i c4,.i c5,.l (.sl 42 .sp) c6,.l .gr c7,.i c8,.i c9,.l (.sl 42 .sp) y1,.i c11]))
noncomputable def dI.l1.g {γ:Type} (YK:HdK γ) (k:Nat) (K:dQ→St→Option γ):List Lf→Option γ
  | [.l (.sl 42 .sp) c1,.i c2,.i v3,.i c4,.i c5,.l (.sl 42 .sp) c6,.l .gr c7,.i c8,.i c9,.l (.sl 42 .sp) v10,.i c11]=>dI.l1 (dI.l1.c YK K c4 c5 c6 c7 c8 c9 c11) c1 c2 k v3 v10
  | _=>none
noncomputable def dI.C {γ:Type}:Ctx γ:=mkC (fun k=>mkE [(36,eP.m k),(70,gN.m k),(74,eH.m k),(76,eu.m k)] [75]) [(34,Tryz.f34),(75,Tryz.f75),(123,Tryz.f123)] [(34,mkA [13,18,26,38,39,52,59] [(2,[2,3,45,46,47])] [(2,[2,3])] []),(75,mkA [] [] [] []),(123,mkA [] [(0,[0,1,3])] [(0,[])] [])] [⟨1,123,0,iC [(dI.l0.p,dI.l0.g)]⟩,⟨2,34,2,iC [(dI.l1.p,dI.l1.g)]⟩] [⟨1,123,4,dI.y0T⟩]
theorem dI.l0.eq {γ:Type} (YK:HdK γ) (rl:Option Nat) (K:dQ→St→Option γ)  : ∀ k:Nat,(fun (v1:Int) (v2:Int) (v3:Int) (v4:List (List P.S42)) (v5:List P.S44) (v6:Int)=>dI.C.lK 1 123 0 Tryz.f123 YK rl 5 k (dI.l0.p.mk' [.i v1,.i v2,.i v3,.l (.sl 42 .sp) v4,.l .gr v5,.i v6]) K)=(fun (v1:Int) (v2:Int) (v3:Int) (v4:List (List P.S42)) (v5:List P.S44) (v6:Int)=>dI.l0.g YK k K [.i v1,.i v2,.i v3,.l (.sl 42 .sp) v4,.l .gr v5,.i v6]):=fF (fun R k v1 v2 v3 v4 v5 v6=>dI.l0T (dI.l0.c YK K).1 (dI.l0.c YK K).2.1 (dI.l0.c YK K).2.2 R k v1 v2 v3 v4 v5 v6) (by kernel_rfl) (fun k=>by kernel_rfl) (fun k=>by kernel_rfl)
theorem dI.l1.eq {γ:Type} (YK:HdK γ) (rl:Option Nat) (K:dQ→St→Option γ) (c1:List (List P.S42)) (c2:Int) (c4:Int) (c5:Int) (c6:List (List P.S42)) (c7:List P.S44) (c8:Int) (c9:Int) (c11:Int):∀ k:Nat,(fun (v3:Int) (v10:List (List P.S42))=>dI.C.lK 2 34 2 Tryz.f34 YK rl 5 k (dI.l1.p.mk' [.l (.sl 42 .sp) c1,.i c2,.i v3,.i c4,.i c5,.l (.sl 42 .sp) c6,.l .gr c7,.i c8,.i c9,.l (.sl 42 .sp) v10,.i c11]) K)=(fun (v3:Int) (v10:List (List P.S42))=>dI.l1.g YK k K [.l (.sl 42 .sp) c1,.i c2,.i v3,.i c4,.i c5,.l (.sl 42 .sp) c6,.l .gr c7,.i c8,.i c9,.l (.sl 42 .sp) v10,.i c11]):=fF (fun R k v3 v10=>dI.l1T (dI.l1.c YK K c4 c5 c6 c7 c8 c9 c11) c1 c2 R k v3 v10) (by kernel_rfl) (fun k=>by kernel_rfl) (fun k=>by kernel_rfl)
theorem dI.fH {γ:Type}:(dI.C (γ:=γ)).Ok:=⟨(all_cons (fun k=>by kernel_rfl) (all_cons (fun k=>by kernel_rfl) (all_cons (fun k=>by kernel_rfl) all_nil))),(all_cons (by kernel_rfl) (all_cons (by kernel_rfl) (all_cons (by kernel_rfl) all_nil))),(all_cons dI.oH all_nil)⟩
theorem dI.e0 {γ:Type}:iq (dI.C (γ:=γ)) ⟨1,123,0,iC [(dI.l0.p,dI.l0.g)]⟩:=dI.fH.kg Tryz.f123 [] (by kernel_rfl) (by kernel_rfl) (by kernel_rfl) (all_cons iJ (all_cons iJ all_nil)) (all_cons (fun YK rl k ls K v hv=>(show dI.l0.g YK k K ls=some v→_ from fun hv=>by
  unfold dI.l0.g at hv;split at hv
  · exact (congrFun (congrFun (congrFun (congrFun (congrFun (congrFun (dI.l0.eq YK rl K k) _) _) _) _) _) _).trans hv
  · cases hv) hv) all_nil)
theorem dI.e1 {γ:Type}:iq (dI.C (γ:=γ)) ⟨2,34,2,iC [(dI.l1.p,dI.l1.g)]⟩:=dI.fH.kg Tryz.f34 [] (by kernel_rfl) (by kernel_rfl) (by kernel_rfl) (all_cons (fun _=>dI.e0) (all_cons iJ all_nil)) (all_cons (fun YK rl k ls K v hv=>(show dI.l1.g YK k K ls=some v→_ from fun hv=>by
  unfold dI.l1.g at hv;split at hv
  · exact (congrFun (congrFun (dI.l1.eq YK rl K _ _ _ _ _ _ _ _ _ k) _) _).trans hv
  · cases hv) hv) all_nil)
theorem dI.ok (k:Nat):jk Tryz.prog 34 (dI.m k).s:=okW dI.fH 2 Tryz.f34 k (all_cons ⟨Tryz.f75,Tryz.func75,by kernel_rfl⟩ all_nil) (fun k=>all_cons (eP.ok k) (all_cons (gN.ok k) (all_cons (eH.ok k) (all_cons (eu.ok k) (all_nil))))) (all_cons ⟨Tryz.func34,by kernel_rfl⟩ (all_cons ⟨Tryz.func75,by kernel_rfl⟩ (all_cons ⟨Tryz.func123,by kernel_rfl⟩ all_nil))) (all_cons dI.e0 (all_cons dI.e1 all_nil)) (by kernel_rfl) (by kernel_rfl) (fun a=>by kernel_rfl)
noncomputable def dA.m (k:Nat):Sm:=jm [(.sl 42 .sp),(.sl 42 .sp)] [.pl .bool] (fun a=>dA.f k a.1 a.2.1)
noncomputable def dA.l0.p:PS:=⟨[.one (.s .sp),.one (.s .sp)]++nOs 10++[.one (.i .i64),.one (.i .i64)]++nOs 12,[]⟩
noncomputable def dA.l0.c {γ:Type} (YK:HdK γ) (K:dQ→St→Option γ)  := ((K .ret ((⟨nOs 4++[.one (.lb false)]++nOs 21,[]⟩:PS).mk' [])),(K (.exit 0) ((⟨nOs 26,[]⟩:PS).mk' [])))
noncomputable def dA.l0.g {γ:Type} (YK:HdK γ) (k:Nat) (K:dQ→St→Option γ):List Lf→Option γ
  | [.l .sp c1,.l .sp c2,.i c3,.i v4]=>let q:=dA.l0.c YK K;dA.l0 q.1 q.2 c1 c2 c3 k v4
  | _=>none
noncomputable def dA.C {γ:Type}:Ctx γ:=mkC (fun k=>mkE [] []) [(56,Tryz.f56)] [(56,mkA [] [(0,[0,1,12,13])] [(0,[4])] [])] [⟨0,56,0,iC [(dA.l0.p,dA.l0.g)]⟩] []
theorem dA.l0.eq {γ:Type} (YK:HdK γ) (rl:Option Nat) (K:dQ→St→Option γ) (c1:List P.S42) (c2:List P.S42) (c3:Int):∀ k:Nat,(fun (v4:Int)=>dA.C.lK 0 56 0 Tryz.f56 YK rl 0 k (dA.l0.p.mk' [.l .sp c1,.l .sp c2,.i c3,.i v4]) K)=(fun (v4:Int)=>dA.l0.g YK k K [.l .sp c1,.l .sp c2,.i c3,.i v4]):=fF (fun R k v4=>dA.l0T (dA.l0.c YK K).1 (dA.l0.c YK K).2 c1 c2 c3 R k v4) (by kernel_rfl) (fun k=>by kernel_rfl) (fun k=>by kernel_rfl)
theorem dA.fH {γ:Type}:(dA.C (γ:=γ)).Ok:=⟨(all_cons (fun k=>by kernel_rfl) all_nil),(all_cons (by kernel_rfl) all_nil),all_nil⟩
theorem dA.e0 {γ:Type}:iq (dA.C (γ:=γ)) ⟨0,56,0,iC [(dA.l0.p,dA.l0.g)]⟩:=dA.fH.kg Tryz.f56 [] (by kernel_rfl) (by kernel_rfl) (by kernel_rfl) (all_cons iJ all_nil) (all_cons (fun YK rl k ls K v hv=>(show dA.l0.g YK k K ls=some v→_ from fun hv=>by
  unfold dA.l0.g at hv;split at hv
  · exact (congrFun (dA.l0.eq YK rl K _ _ _ k) _).trans hv
  · cases hv) hv) all_nil)
theorem dA.ok (k:Nat):jk Tryz.prog 56 (dA.m k).s:=okW dA.fH 0 Tryz.f56 k all_nil (fun k=>all_nil) (all_cons ⟨Tryz.func56,by kernel_rfl⟩ all_nil) (all_cons dA.e0 all_nil) (by kernel_rfl) (by kernel_rfl) (fun a=>by kernel_rfl)
noncomputable def fu.m (k:Nat):Sm:=jm [(.sl 42 .sp),(.sl 42 .sp)] [.pl .bool] (fun a=>fu.f k a.1 a.2.1)
noncomputable def fu.C {γ:Type}:Ctx γ:=mkC (fun k=>mkE [(56,dA.m k)] []) [(20,Tryz.f20)] [(20,mkA [] [] [] [])] [] []
theorem fu.fH {γ:Type}:(fu.C (γ:=γ)).Ok:=⟨(all_cons (fun k=>by kernel_rfl) all_nil),(all_cons (by kernel_rfl) all_nil),all_nil⟩
theorem fu.ok (k:Nat):jk Tryz.prog 20 (fu.m k).s:=okW fu.fH 0 Tryz.f20 k all_nil (fun k=>all_cons (dA.ok k) (all_nil)) (all_cons ⟨Tryz.func20,by kernel_rfl⟩ all_nil) all_nil (by kernel_rfl) (by kernel_rfl) (fun a=>by kernel_rfl)
noncomputable def iW.m (k:Nat):Sm:=jm [.fm,.gr] [.pl .bool] (fun a=>iW.f k a.1.f0 a.1.f1 a.1.f2 a.1.f3 a.2.1.f0 a.2.1.f1)
noncomputable def iW.C {γ:Type}:Ctx γ:=mkC (fun k=>mkE [(19,fM.m k),(20,fu.m k)] []) [(35,Tryz.f35)] [(35,mkA [] [] [] [])] [] []
theorem iW.fH {γ:Type}:(iW.C (γ:=γ)).Ok:=⟨(all_cons (fun k=>by kernel_rfl) all_nil),(all_cons (by kernel_rfl) all_nil),all_nil⟩
theorem iW.ok (k:Nat):jk Tryz.prog 35 (iW.m k).s:=okW iW.fH 0 Tryz.f35 k all_nil (fun k=>all_cons (fM.ok k) (all_cons (fu.ok k) (all_nil))) (all_cons ⟨Tryz.func35,by kernel_rfl⟩ all_nil) all_nil (by kernel_rfl) (by kernel_rfl) (fun a=>by kernel_rfl)
noncomputable def dN.m (k:Nat):Sm:=jm [.fm] [.pl .fm] (fun a=>dN.f k a.1.f0 a.1.f1 a.1.f2 a.1.f3)
noncomputable def dN.l0.p:PS:=⟨[nO,nO,.one (.bp 1 0),.one (.bp 2 0),.one (.o 44 .gr)]++nOs 5++[.one (.s .gr),.one (.i .i64),.one (.i .i64)]++nOs 20,[.box 25 [.i .i64,.i .i64,.s (.sl 42 .sp),.s .gr],.box 25 [.li .i64 0,.li .i64 0,.lo 37 (.sl 42 .sp),.lo 44 .gr],.box 25 [.i .i64,.i .i64,.s (.sl 42 .sp),.s .gr]]⟩
noncomputable def dN.l0.c {γ:Type} (YK:HdK γ) (K:dQ→St→Option γ) (c5:Int) (c6:Int) (c7:List (List P.S42)) (c8:List P.S44) (c9:Int) (c10:Int) (c11:List (List P.S42)) (c12:List P.S44):=(fun y1=>K (.exit 0) ((⟨[nO,nO,.one (.bp 1 0),.one (.bp 2 0),.one (.o 44 .gr)]++nOs 28,[.box 25 [.i .i64,.i .i64,.s (.sl 42 .sp),.s .gr],.box 25 [.li .i64 0,.li .i64 0,.lo 37 (.sl 42 .sp),.lo 44 .gr],.box 25 [.i .i64,.i .i64,.s (.sl 42 .sp),.s .gr]]⟩:PS).mk' [.l .gr y1,.i c5,.i c6,.l (.sl 42 .sp) c7,.l .gr c8,.i c9,.i c10,.l (.sl 42 .sp) c11,.l .gr c12]))
noncomputable def dN.l0.g {γ:Type} (YK:HdK γ) (k:Nat) (K:dQ→St→Option γ):List Lf→Option γ
  | [.l .gr v1,.l .gr c2,.i c3,.i v4,.i c5,.i c6,.l (.sl 42 .sp) c7,.l .gr c8,.i c9,.i c10,.l (.sl 42 .sp) c11,.l .gr c12]=>dN.l0 (dN.l0.c YK K c5 c6 c7 c8 c9 c10 c11 c12) c2 c3 c9 c10 c11 c12 k v1 v4
  | _=>none
noncomputable def dN.C {γ:Type}:Ctx γ:=mkC (fun k=>mkE [(34,dI.m k),(35,iW.m k),(36,eP.m k)] []) [(10,Tryz.f10)] [(10,mkA [20,30,32] [(0,[2,3,4,10,11,12])] [(0,[2,3,4])] [])] [⟨0,10,0,iC [(dN.l0.p,dN.l0.g)]⟩] []
theorem dN.l0.eq {γ:Type} (YK:HdK γ) (rl:Option Nat) (K:dQ→St→Option γ) (c2:List P.S44) (c3:Int) (c5:Int) (c6:Int) (c7:List (List P.S42)) (c8:List P.S44) (c9:Int) (c10:Int) (c11:List (List P.S42)) (c12:List P.S44):∀ k:Nat,(fun (v1:List P.S44) (v4:Int)=>dN.C.lK 0 10 0 Tryz.f10 YK rl 3 k (dN.l0.p.mk' [.l .gr v1,.l .gr c2,.i c3,.i v4,.i c5,.i c6,.l (.sl 42 .sp) c7,.l .gr c8,.i c9,.i c10,.l (.sl 42 .sp) c11,.l .gr c12]) K)=(fun (v1:List P.S44) (v4:Int)=>dN.l0.g YK k K [.l .gr v1,.l .gr c2,.i c3,.i v4,.i c5,.i c6,.l (.sl 42 .sp) c7,.l .gr c8,.i c9,.i c10,.l (.sl 42 .sp) c11,.l .gr c12]):=fF (fun R k v1 v4=>dN.l0T (dN.l0.c YK K c5 c6 c7 c8 c9 c10 c11 c12) c2 c3 c9 c10 c11 c12 R k v1 v4) (by kernel_rfl) (fun k=>by kernel_rfl) (fun k=>by kernel_rfl)
theorem dN.fH {γ:Type}:(dN.C (γ:=γ)).Ok:=⟨(all_cons (fun k=>by kernel_rfl) all_nil),(all_cons (by kernel_rfl) all_nil),all_nil⟩
theorem dN.e0 {γ:Type}:iq (dN.C (γ:=γ)) ⟨0,10,0,iC [(dN.l0.p,dN.l0.g)]⟩:=dN.fH.kg Tryz.f10 [] (by kernel_rfl) (by kernel_rfl) (by kernel_rfl) (all_cons iJ all_nil) (all_cons (fun YK rl k ls K v hv=>(show dN.l0.g YK k K ls=some v→_ from fun hv=>by
  unfold dN.l0.g at hv;split at hv
  · exact (congrFun (congrFun (dN.l0.eq YK rl K _ _ _ _ _ _ _ _ _ _ k) _) _).trans hv
  · cases hv) hv) all_nil)
theorem dN.ok (k:Nat):jk Tryz.prog 10 (dN.m k).s:=okW dN.fH 0 Tryz.f10 k all_nil (fun k=>all_cons (dI.ok k) (all_cons (iW.ok k) (all_cons (eP.ok k) (all_nil)))) (all_cons ⟨Tryz.func10,by kernel_rfl⟩ all_nil) (all_cons dN.e0 all_nil) (by kernel_rfl) (by kernel_rfl) (fun a=>by kernel_rfl)
noncomputable def jD.m (k:Nat):Sm:=jm [(.int .i64),(.int .i64)] [.pl (.int .i64),.pl (.int .i64)] (fun a=>jD.f k a.1 a.2.1)
noncomputable def jD.C {γ:Type}:Ctx γ:=mkC (fun k=>mkE [(143,bits_Mul64.m k),(144,iF.m k),(145,iy.m k),(157,gq.m k)] []) [(128,Tryz.f128)] [(128,mkA [] [] [] [])] [] []
theorem jD.fH {γ:Type}:(jD.C (γ:=γ)).Ok:=⟨(all_cons (fun k=>by kernel_rfl) all_nil),(all_cons (by kernel_rfl) all_nil),all_nil⟩
theorem jD.ok (k:Nat):jk Tryz.prog 128 (jD.m k).s:=okW jD.fH 0 Tryz.f128 k all_nil (fun k=>all_cons (bits_Mul64.ok k) (all_cons (iF.ok k) (all_cons (iy.ok k) (all_cons (gq.ok k) (all_nil))))) (all_cons ⟨Tryz.func128,by kernel_rfl⟩ all_nil) all_nil (by kernel_rfl) (by kernel_rfl) (fun a=>by kernel_rfl)
noncomputable def dY.m (k:Nat):Sm:=jm [.fm,.fm] [.pl (.int .i64),.pl (.int .i64),.pl (.int .i64)] (fun a=>dY.f k a.1.f0 a.1.f1 a.1.f2 a.1.f3 a.2.1.f0 a.2.1.f1 a.2.1.f2 a.2.1.f3)
noncomputable def dY.l0.p:PS:=⟨[nO,nO,.one (.bp 0 0),.one (.bp 1 0)]++nOs 3++[.one (.i .i64)]++nOs 51,[.box 25 [.i .i64,.i .i64,.s (.sl 42 .sp),.s .gr],.box 25 [.i .i64,.i .i64,.s (.sl 42 .sp),.s .gr]]⟩
noncomputable def dY.l0.c {γ:Type} (YK:HdK γ) (K:dQ→St→Option γ)  := ((fun y1 y2 y3 y4 y5 y6 y7 y8=>K .ret ((⟨nOs 4++[.one (.li .i64 0),.one (.li .i64 0),.one (.li .i64 3)]++nOs 52,[.box 25 [.i .i64,.i .i64,.s (.sl 42 .sp),.s .gr],.box 25 [.i .i64,.i .i64,.s (.sl 42 .sp),.s .gr]]⟩:PS).mk' [.i y1,.i y2,.l (.sl 42 .sp) y3,.l .gr y4,.i y5,.i y6,.l (.sl 42 .sp) y7,.l .gr y8])),(fun y1 y2 y3 y4 y5 y6 y7 y8=>K .ret ((⟨nOs 4++[.one (.li .i64 0),.one (.li .i64 0),.one (.li .i64 0)]++nOs 52,[.box 25 [.i .i64,.i .i64,.s (.sl 42 .sp),.s .gr],.box 25 [.i .i64,.i .i64,.s (.sl 42 .sp),.s .gr]]⟩:PS).mk' [.i y1,.i y2,.l (.sl 42 .sp) y3,.l .gr y4,.i y5,.i y6,.l (.sl 42 .sp) y7,.l .gr y8])),(fun y1 y2 y3 y4 y5 y6 y7 y8=>K .ret ((⟨nOs 4++[.one (.li .i64 0),.one (.li .i64 0),.one (.li .i64 20)]++nOs 52,[.box 25 [.i .i64,.i .i64,.s (.sl 42 .sp),.s .gr],.box 25 [.i .i64,.i .i64,.s (.sl 42 .sp),.s .gr],.box 25 [.i .i64,.i .i64,.s (.sl 42 .sp),.s .gr]]⟩:PS).mk' [.i y1,.i y2,.l (.sl 42 .sp) y3,.l .gr y4,.i y5,.i y6,.l (.sl 42 .sp) y7,.l .gr y8,.i y5,.i y6,.l (.sl 42 .sp) y7,.l .gr y8])),(fun y1 y2 y3 y4 y5 y6 y7 y8 y9 aa=>K .ret ((⟨nOs 4++[.one (.i .i64),.one (.i .i64),.one (.li .i64 0)]++nOs 52,[.box 25 [.i .i64,.i .i64,.s (.sl 42 .sp),.s .gr],.box 25 [.i .i64,.i .i64,.s (.sl 42 .sp),.s .gr],.box 25 [.i .i64,.i .i64,.s (.sl 42 .sp),.s .gr]]⟩:PS).mk' [.i y1,.i y2,.i y3,.i y4,.l (.sl 42 .sp) y5,.l .gr y6,.i y7,.i y8,.l (.sl 42 .sp) y9,.l .gr aa,.i y7,.i y8,.l (.sl 42 .sp) y9,.l .gr aa])),(fun y1 y2 y3 y4 y5 y6 y7 y8=>K .ret ((⟨nOs 4++[.one (.li .i64 0),.one (.li .i64 0),.one (.li .i64 20)]++nOs 52,[.box 25 [.i .i64,.i .i64,.s (.sl 42 .sp),.s .gr],.box 25 [.i .i64,.i .i64,.s (.sl 42 .sp),.s .gr],.box 25 [.i .i64,.i .i64,.s (.sl 42 .sp),.s .gr]]⟩:PS).mk' [.i y1,.i y2,.l (.sl 42 .sp) y3,.l .gr y4,.i y5,.i y6,.l (.sl 42 .sp) y7,.l .gr y8,.i y1,.i y2,.l (.sl 42 .sp) y3,.l .gr y4])),(fun y1 y2 y3 y4 y5 y6 y7 y8 y9 aa=>K .ret ((⟨nOs 4++[.one (.i .i64),.one (.i .i64),.one (.li .i64 0)]++nOs 52,[.box 25 [.i .i64,.i .i64,.s (.sl 42 .sp),.s .gr],.box 25 [.i .i64,.i .i64,.s (.sl 42 .sp),.s .gr],.box 25 [.i .i64,.i .i64,.s (.sl 42 .sp),.s .gr]]⟩:PS).mk' [.i y1,.i y2,.i y3,.i y4,.l (.sl 42 .sp) y5,.l .gr y6,.i y7,.i y8,.l (.sl 42 .sp) y9,.l .gr aa,.i y3,.i y4,.l (.sl 42 .sp) y5,.l .gr y6])))
noncomputable def dY.l0.g {γ:Type} (YK:HdK γ) (k:Nat) (K:dQ→St→Option γ):List Lf→Option γ
  | [.i v1,.i v2,.i v3,.l (.sl 42 .sp) v4,.l .gr v5,.i v6,.i v7,.l (.sl 42 .sp) v8,.l .gr v9]=>let q:=dY.l0.c YK K;dY.l0 q.1 q.2.1 q.2.2.1 q.2.2.2.1 q.2.2.2.2.1 q.2.2.2.2.2 k v1 v2 v3 v4 v5 v6 v7 v8 v9
  | _=>none
noncomputable def dY.C {γ:Type}:Ctx γ:=mkC (fun k=>mkE [(105,iK.m k),(128,jD.m k)] []) [(78,Tryz.f78)] [(78,mkA [] [(1000013,[2,3,7])] [(1000013,[4,5,6])] [])] [⟨0,78,1000013,iC [(dY.l0.p,dY.l0.g)]⟩] []
theorem dY.l0.eq {γ:Type} (YK:HdK γ) (rl:Option Nat) (K:dQ→St→Option γ) (k:Nat) (v1:Int) (v2:Int) (v3:Int) (v4:List (List P.S42)) (v5:List P.S44) (v6:Int) (v7:Int) (v8:List (List P.S42)) (v9:List P.S44):dY.C.lK 0 78 1000013 Tryz.f78 YK rl 2 k (dY.l0.p.mk' [.i v1,.i v2,.i v3,.l (.sl 42 .sp) v4,.l .gr v5,.i v6,.i v7,.l (.sl 42 .sp) v8,.l .gr v9]) K=dY.l0.g YK k K [.i v1,.i v2,.i v3,.l (.sl 42 .sp) v4,.l .gr v5,.i v6,.i v7,.l (.sl 42 .sp) v8,.l .gr v9]:=by kernel_rfl
theorem dY.fH {γ:Type}:(dY.C (γ:=γ)).Ok:=⟨(all_cons (fun k=>by kernel_rfl) all_nil),(all_cons (by kernel_rfl) all_nil),all_nil⟩
theorem dY.e0 {γ:Type}:iq (dY.C (γ:=γ)) ⟨0,78,1000013,iC [(dY.l0.p,dY.l0.g)]⟩:=dY.fH.kg Tryz.f78 [] (by kernel_rfl) (by kernel_rfl) (by kernel_rfl) (all_cons iJ all_nil) (all_cons (fun YK rl k ls K v hv=>(show dY.l0.g YK k K ls=some v→_ from fun hv=>by
  unfold dY.l0.g at hv;split at hv
  · exact (dY.l0.eq YK rl K k _ _ _ _ _ _ _ _ _).trans hv
  · cases hv) hv) all_nil)
theorem dY.ok (k:Nat):jk Tryz.prog 78 (dY.m k).s:=okW dY.fH 0 Tryz.f78 k all_nil (fun k=>all_cons (iK.ok k) (all_cons (jD.ok k) (all_nil))) (all_cons ⟨Tryz.func78,by kernel_rfl⟩ all_nil) (all_cons dY.e0 all_nil) (by kernel_rfl) (by kernel_rfl) (fun a=>by kernel_rfl)
noncomputable def iX.m (k:Nat):Sm:=jm [(.sl 42 .sp)] [.pl .bool] (fun a=>iX.f k a.1)
noncomputable def iX.C {γ:Type}:Ctx γ:=mkC (fun k=>mkE [] []) [(129,Tryz.f129)] [(129,mkA [] [] [] [])] [] []
theorem iX.fH {γ:Type}:(iX.C (γ:=γ)).Ok:=⟨(all_cons (fun k=>by kernel_rfl) all_nil),(all_cons (by kernel_rfl) all_nil),all_nil⟩
theorem iX.ok (k:Nat):jk Tryz.prog 129 (iX.m k).s:=okW iX.fH 0 Tryz.f129 k all_nil (fun k=>all_nil) (all_cons ⟨Tryz.func129,by kernel_rfl⟩ all_nil) all_nil (by kernel_rfl) (by kernel_rfl) (fun a=>by kernel_rfl)
noncomputable def eX.m (k:Nat):Sm:=jm [.fm] [.pl .bool] (fun a=>eX.f k a.1.f0 a.1.f1 a.1.f2 a.1.f3)
noncomputable def eX.l0.p:PS:=⟨[.one (.s (.sl 42 .sp)),.one (.fn 129 [])]++nOs 5++[.one (.i .i64),.one (.i .i64)]++nOs 10,[.box 25 [.i .i64,.i .i64,.s (.sl 42 .sp),.s .gr]]⟩
noncomputable def eX.l0.c {γ:Type} (YK:HdK γ) (K:dQ→St→Option γ) (c4:Int) (c5:Int) (c6:List (List P.S42)) (c7:List P.S44):=((fun y1=>K .ret ((⟨nOs 4++[.one (.i .i64)]++nOs 14,[.box 25 [.i .i64,.i .i64,.s (.sl 42 .sp),.s .gr]]⟩:PS).mk' [.i y1,.i c4,.i c5,.l (.sl 42 .sp) c6,.l .gr c7])),(K (.exit 0) ((⟨nOs 19,[.box 25 [.i .i64,.i .i64,.s (.sl 42 .sp),.s .gr]]⟩:PS).mk' [.i c4,.i c5,.l (.sl 42 .sp) c6,.l .gr c7])))
noncomputable def eX.l0.g {γ:Type} (YK:HdK γ) (k:Nat) (K:dQ→St→Option γ):List Lf→Option γ
  | [.l (.sl 42 .sp) c1,.i c2,.i v3,.i c4,.i c5,.l (.sl 42 .sp) c6,.l .gr c7]=>let q:=eX.l0.c YK K c4 c5 c6 c7;eX.l0 q.1 q.2 c1 c2 k v3
  | _=>none
noncomputable def eX.C {γ:Type}:Ctx γ:=mkC (fun k=>mkE [(129,iX.m k)] []) [(79,Tryz.f79),(112,Tryz.f112),(150,Tryz.f150)] [(79,mkA [] [] [] []),(112,mkA [] [] [] []),(150,mkA [] [(0,[0,1,7,8])] [(0,[4])] [])] [⟨0,150,0,iC [(eX.l0.p,eX.l0.g)]⟩] []
theorem eX.l0.eq {γ:Type} (YK:HdK γ) (rl:Option Nat) (K:dQ→St→Option γ) (c1:List (List P.S42)) (c2:Int) (c4:Int) (c5:Int) (c6:List (List P.S42)) (c7:List P.S44):∀ k:Nat,(fun (v3:Int)=>eX.C.lK 0 150 0 Tryz.f150 YK rl 1 k (eX.l0.p.mk' [.l (.sl 42 .sp) c1,.i c2,.i v3,.i c4,.i c5,.l (.sl 42 .sp) c6,.l .gr c7]) K)=(fun (v3:Int)=>eX.l0.g YK k K [.l (.sl 42 .sp) c1,.i c2,.i v3,.i c4,.i c5,.l (.sl 42 .sp) c6,.l .gr c7]):=fF (fun R k v3=>eX.l0T (eX.l0.c YK K c4 c5 c6 c7).1 (eX.l0.c YK K c4 c5 c6 c7).2 c1 c2 R k v3) (by kernel_rfl) (fun k=>by kernel_rfl) (fun k=>by kernel_rfl)
theorem eX.fH {γ:Type}:(eX.C (γ:=γ)).Ok:=⟨(all_cons (fun k=>by kernel_rfl) (all_cons (fun k=>by kernel_rfl) (all_cons (fun k=>by kernel_rfl) all_nil))),(all_cons (by kernel_rfl) (all_cons (by kernel_rfl) (all_cons (by kernel_rfl) all_nil))),all_nil⟩
theorem eX.e0 {γ:Type}:iq (eX.C (γ:=γ)) ⟨0,150,0,iC [(eX.l0.p,eX.l0.g)]⟩:=eX.fH.kg Tryz.f150 [] (by kernel_rfl) (by kernel_rfl) (by kernel_rfl) (all_cons iJ all_nil) (all_cons (fun YK rl k ls K v hv=>(show eX.l0.g YK k K ls=some v→_ from fun hv=>by
  unfold eX.l0.g at hv;split at hv
  · exact (congrFun (eX.l0.eq YK rl K _ _ _ _ _ _ k) _).trans hv
  · cases hv) hv) all_nil)
theorem eX.ok (k:Nat):jk Tryz.prog 79 (eX.m k).s:=okW eX.fH 2 Tryz.f79 k all_nil (fun k=>all_cons (iX.ok k) (all_nil)) (all_cons ⟨Tryz.func79,by kernel_rfl⟩ (all_cons ⟨Tryz.func112,by kernel_rfl⟩ (all_cons ⟨Tryz.func150,by kernel_rfl⟩ all_nil))) (all_cons eX.e0 all_nil) (by kernel_rfl) (by kernel_rfl) (fun a=>by kernel_rfl)
noncomputable def iw.m (k:Nat):Sm:=jm [.fm,(.int .i64)] [.own 42 .sp,.pl (.int .i64)] (fun a=>iw.f k a.1.f0 a.1.f1 a.1.f2 a.1.f3 a.2.1)
noncomputable def iw.C {γ:Type}:Ctx γ:=mkC (fun k=>mkE [(55,eG.m k),(70,gN.m k),(105,iK.m k)] []) [(80,Tryz.f80)] [(80,mkA [49] [] [] [])] [] []
theorem iw.fH {γ:Type}:(iw.C (γ:=γ)).Ok:=⟨(all_cons (fun k=>by kernel_rfl) all_nil),(all_cons (by kernel_rfl) all_nil),all_nil⟩
theorem iw.ok (k:Nat):jk Tryz.prog 80 (iw.m k).s:=okW iw.fH 0 Tryz.f80 k all_nil (fun k=>all_cons (eG.ok k) (all_cons (gN.ok k) (all_cons (iK.ok k) (all_nil)))) (all_cons ⟨Tryz.func80,by kernel_rfl⟩ all_nil) all_nil (by kernel_rfl) (by kernel_rfl) (fun a=>by kernel_rfl)
noncomputable def dP.m (k:Nat):Sm:=jm [.fm,.fm] [.own 90 .pr,.pl (.int .i64),.pl (.int .i64)] (fun a=>dP.f k a.1.f0 a.1.f1 a.1.f2 a.1.f3 a.2.1.f0 a.2.1.f1 a.2.1.f2 a.2.1.f3)
noncomputable def dP.l1.p:PS:=⟨[nO,nO,.one (.bp 0 0),.one (.bp 1 0)]++nOs 4++[.one (.i .i64)]++nOs 4++[.one (.o 90 .pr)]++nOs 31++[.one (.i .i64),.one (.i .i64)]++nOs 29,[.box 25 [.i .i64,.i .i64,.s (.sl 42 .sp),.s .gr],.box 25 [.i .i64,.i .i64,.s (.sl 42 .sp),.s .gr]]⟩
noncomputable def dP.l1.c {γ:Type} (YK:HdK γ) (K:dQ→St→Option γ) (c1:Int) (c5:Int) (c6:Int) (c7:List (List P.S42)) (c8:List P.S44) (c9:Int) (c10:Int) (c11:List (List P.S42)) (c12:List P.S44):=((fun y1=>K .ret ((⟨nOs 4++[.one (.lo 90 .pr),.one (.li .i64 0),.one (.li .i64 20),nO,.one (.i .i64)]++nOs 4++[.one (.o 90 .pr)]++nOs 62,[.box 25 [.i .i64,.i .i64,.s (.sl 42 .sp),.s .gr],.box 25 [.i .i64,.i .i64,.s (.sl 42 .sp),.s .gr]]⟩:PS).mk' [.i c1,.l .pr y1,.i c5,.i c6,.l (.sl 42 .sp) c7,.l .gr c8,.i c9,.i c10,.l (.sl 42 .sp) c11,.l .gr c12])),(fun y1=>K (.exit 0) ((⟨nOs 8++[.one (.i .i64)]++nOs 4++[.one (.o 90 .pr)]++nOs 62,[.box 25 [.i .i64,.i .i64,.s (.sl 42 .sp),.s .gr],.box 25 [.i .i64,.i .i64,.s (.sl 42 .sp),.s .gr]]⟩:PS).mk' [.i c1,.l .pr y1,.i c5,.i c6,.l (.sl 42 .sp) c7,.l .gr c8,.i c9,.i c10,.l (.sl 42 .sp) c11,.l .gr c12])))
noncomputable def dP.l1.g {γ:Type} (YK:HdK γ) (k:Nat) (K:dQ→St→Option γ):List Lf→Option γ
  | [.i c1,.l .pr v2,.i c3,.i v4,.i c5,.i c6,.l (.sl 42 .sp) c7,.l .gr c8,.i c9,.i c10,.l (.sl 42 .sp) c11,.l .gr c12]=>let q:=dP.l1.c YK K c1 c5 c6 c7 c8 c9 c10 c11 c12;dP.l1 q.1 q.2 c3 c5 c6 c7 c8 c9 c10 c11 c12 k v2 v4
  | _=>none
noncomputable def dP.l0.p:PS:=⟨[nO,nO,.one (.bp 0 0),.one (.bp 1 0)]++nOs 3++[.one (.i .i64),.one (.i .i64)]++nOs 67,[.box 25 [.i .i64,.i .i64,.s (.sl 42 .sp),.s .gr],.box 25 [.i .i64,.i .i64,.s (.sl 42 .sp),.s .gr]]⟩
noncomputable def dP.l0.c {γ:Type} (YK:HdK γ) (K:dQ→St→Option γ)  := ((fun y1 y2 y3 y4 y5 y6 y7 y8=>K .ret ((⟨nOs 4++[.one (.lo 90 .pr),.one (.li .i64 0),.one (.li .i64 20)]++nOs 69,[.box 25 [.i .i64,.i .i64,.s (.sl 42 .sp),.s .gr],.box 25 [.i .i64,.i .i64,.s (.sl 42 .sp),.s .gr]]⟩:PS).mk' [.i y1,.i y2,.l (.sl 42 .sp) y3,.l .gr y4,.i y5,.i y6,.l (.sl 42 .sp) y7,.l .gr y8])),(fun y1 y2 y3 y4 y5 y6 y7 y8 y9 aa=>K .ret ((⟨nOs 4++[.one (.o 90 .pr),.one (.i .i64),.one (.li .i64 0)]++nOs 69,[.box 25 [.i .i64,.i .i64,.s (.sl 42 .sp),.s .gr],.box 25 [.i .i64,.i .i64,.s (.sl 42 .sp),.s .gr]]⟩:PS).mk' [.l .pr y1,.i y2,.i y3,.i y4,.l (.sl 42 .sp) y5,.l .gr y6,.i y7,.i y8,.l (.sl 42 .sp) y9,.l .gr aa])))
noncomputable def dP.l0.g {γ:Type} (YK:HdK γ) (k:Nat) (K:dQ→St→Option γ):List Lf→Option γ
  | [.i v1,.i v2,.i v3,.i v4,.l (.sl 42 .sp) v5,.l .gr v6,.i v7,.i v8,.l (.sl 42 .sp) v9,.l .gr v10]=>let q:=dP.l0.c YK K;dP.l0 q.1 q.2 k v1 v2 v3 v4 v5 v6 v7 v8 v9 v10
  | _=>none
noncomputable def dP.C {γ:Type}:Ctx γ:=mkC (fun k=>mkE [(78,dY.m k),(79,eX.m k),(80,iw.m k)] []) [(40,Tryz.f40)] [(40,mkA [67,74] [(0,[2,3,8,13,45,46]),(1000025,[2,3,7,8])] [(0,[4,5,6,8,13]),(1000025,[4,5,6])] [])] [⟨0,40,0,iC [(dP.l1.p,dP.l1.g)]⟩,⟨0,40,1000025,iC [(dP.l0.p,dP.l0.g)]⟩] []
theorem dP.l1.eq {γ:Type} (YK:HdK γ) (rl:Option Nat) (K:dQ→St→Option γ) (c1:Int) (c3:Int) (c5:Int) (c6:Int) (c7:List (List P.S42)) (c8:List P.S44) (c9:Int) (c10:Int) (c11:List (List P.S42)) (c12:List P.S44):∀ k:Nat,(fun (v2:List P2) (v4:Int)=>dP.C.lK 0 40 0 Tryz.f40 YK rl 2 k (dP.l1.p.mk' [.i c1,.l .pr v2,.i c3,.i v4,.i c5,.i c6,.l (.sl 42 .sp) c7,.l .gr c8,.i c9,.i c10,.l (.sl 42 .sp) c11,.l .gr c12]) K)=(fun (v2:List P2) (v4:Int)=>dP.l1.g YK k K [.i c1,.l .pr v2,.i c3,.i v4,.i c5,.i c6,.l (.sl 42 .sp) c7,.l .gr c8,.i c9,.i c10,.l (.sl 42 .sp) c11,.l .gr c12]):=fF (fun R k v2 v4=>dP.l1T (dP.l1.c YK K c1 c5 c6 c7 c8 c9 c10 c11 c12).1 (dP.l1.c YK K c1 c5 c6 c7 c8 c9 c10 c11 c12).2 c3 c5 c6 c7 c8 c9 c10 c11 c12 R k v2 v4) (by kernel_rfl) (fun k=>by kernel_rfl) (fun k=>by kernel_rfl)
theorem dP.l0.eq {γ:Type} (YK:HdK γ) (rl:Option Nat) (K:dQ→St→Option γ) (k:Nat) (v1:Int) (v2:Int) (v3:Int) (v4:Int) (v5:List (List P.S42)) (v6:List P.S44) (v7:Int) (v8:Int) (v9:List (List P.S42)) (v10:List P.S44):dP.C.lK 0 40 1000025 Tryz.f40 YK rl 2 k (dP.l0.p.mk' [.i v1,.i v2,.i v3,.i v4,.l (.sl 42 .sp) v5,.l .gr v6,.i v7,.i v8,.l (.sl 42 .sp) v9,.l .gr v10]) K=dP.l0.g YK k K [.i v1,.i v2,.i v3,.i v4,.l (.sl 42 .sp) v5,.l .gr v6,.i v7,.i v8,.l (.sl 42 .sp) v9,.l .gr v10]:=by kernel_rfl
theorem dP.fH {γ:Type}:(dP.C (γ:=γ)).Ok:=⟨(all_cons (fun k=>by kernel_rfl) all_nil),(all_cons (by kernel_rfl) all_nil),all_nil⟩
theorem dP.e0 {γ:Type}:iq (dP.C (γ:=γ)) ⟨0,40,0,iC [(dP.l1.p,dP.l1.g)]⟩:=dP.fH.kg Tryz.f40 [] (by kernel_rfl) (by kernel_rfl) (by kernel_rfl) (all_cons iJ (all_cons iJ all_nil)) (all_cons (fun YK rl k ls K v hv=>(show dP.l1.g YK k K ls=some v→_ from fun hv=>by
  unfold dP.l1.g at hv;split at hv
  · exact (congrFun (congrFun (dP.l1.eq YK rl K _ _ _ _ _ _ _ _ _ _ k) _) _).trans hv
  · cases hv) hv) all_nil)
theorem dP.e1 {γ:Type}:iq (dP.C (γ:=γ)) ⟨0,40,1000025,iC [(dP.l0.p,dP.l0.g)]⟩:=dP.fH.kg Tryz.f40 [0] (by kernel_rfl) (by kernel_rfl) (by kernel_rfl) (all_cons (fun _=>dP.e0) (all_cons iJ all_nil)) (all_cons (fun YK rl k ls K v hv=>(show dP.l0.g YK k K ls=some v→_ from fun hv=>by
  unfold dP.l0.g at hv;split at hv
  · exact (dP.l0.eq YK rl K k _ _ _ _ _ _ _ _ _ _).trans hv
  · cases hv) hv) all_nil)
theorem dP.ok (k:Nat):jk Tryz.prog 40 (dP.m k).s:=okW dP.fH 0 Tryz.f40 k all_nil (fun k=>all_cons (dY.ok k) (all_cons (eX.ok k) (all_cons (iw.ok k) (all_nil)))) (all_cons ⟨Tryz.func40,by kernel_rfl⟩ all_nil) (all_cons dP.e0 (all_cons dP.e1 all_nil)) (by kernel_rfl) (by kernel_rfl) (fun a=>by kernel_rfl)
noncomputable def cZ.m (k:Nat):Sm:=jm [(.sl 23 (.sl 44 .gr))] [.own 44 .gr] (fun a=>cZ.f k a.1)
noncomputable def cZ.l0.p:PS:=⟨[.one (.s (.sl 44 .gr)),nO,nO,.one (.i .i64)]++nOs 5++[.one (.s (.sl 44 .gr)),.one (.i .i64),.one (.i .i64)]++nOs 24,[]⟩
noncomputable def cZ.l0.c {γ:Type} (YK:HdK γ) (K:dQ→St→Option γ) (c1:List (List P.S44)):=(fun y1=>K (.exit 0) ((⟨[.one (.s (.sl 44 .gr)),nO,nO,.one (.i .i64)]++nOs 32,[]⟩:PS).mk' [.l (.sl 44 .gr) c1,.i y1]))
noncomputable def cZ.l0.g {γ:Type} (YK:HdK γ) (k:Nat) (K:dQ→St→Option γ):List Lf→Option γ
  | [.l (.sl 44 .gr) c1,.i v2,.l (.sl 44 .gr) c3,.i c4,.i v5]=>cZ.l0 (cZ.l0.c YK K c1) c3 c4 k v2 v5
  | _=>none
noncomputable def cZ.l1.p:PS:=⟨nOs 6++[.one (.o 44 .gr)]++nOs 18++[.one (.s (.sl 44 .gr)),.one (.i .i64),.one (.i .i64)]++nOs 8,[]⟩
noncomputable def cZ.l1.c {γ:Type} (YK:HdK γ) (K:dQ→St→Option γ)  := (fun y1=>K (.exit 2) ((⟨nOs 6++[.one (.o 44 .gr)]++nOs 29,[]⟩:PS).mk' [.l .gr y1]))
noncomputable def cZ.l1.g {γ:Type} (YK:HdK γ) (k:Nat) (K:dQ→St→Option γ):List Lf→Option γ
  | [.l .gr v1,.l (.sl 44 .gr) c2,.i c3,.i v4]=>cZ.l1 (cZ.l1.c YK K) c2 c3 k v1 v4
  | _=>none
noncomputable def cZ.C {γ:Type}:Ctx γ:=mkC (fun k=>mkE [(130,eD.m k)] []) [(81,Tryz.f81)] [(81,mkA [31,35] [(0,[0,3,9,10,11]),(2,[6,25,26,27])] [(0,[0,3]),(2,[6])] [])] [⟨0,81,0,iC [(cZ.l0.p,cZ.l0.g)]⟩,⟨0,81,2,iC [(cZ.l1.p,cZ.l1.g)]⟩] []
theorem cZ.l0.eq {γ:Type} (YK:HdK γ) (rl:Option Nat) (K:dQ→St→Option γ) (c1:List (List P.S44)) (c3:List (List P.S44)) (c4:Int):∀ k:Nat,(fun (v2:Int) (v5:Int)=>cZ.C.lK 0 81 0 Tryz.f81 YK rl 0 k (cZ.l0.p.mk' [.l (.sl 44 .gr) c1,.i v2,.l (.sl 44 .gr) c3,.i c4,.i v5]) K)=(fun (v2:Int) (v5:Int)=>cZ.l0.g YK k K [.l (.sl 44 .gr) c1,.i v2,.l (.sl 44 .gr) c3,.i c4,.i v5]):=fF (fun R k v2 v5=>cZ.l0T (cZ.l0.c YK K c1) c3 c4 R k v2 v5) (by kernel_rfl) (fun k=>by kernel_rfl) (fun k=>by kernel_rfl)
theorem cZ.l1.eq {γ:Type} (YK:HdK γ) (rl:Option Nat) (K:dQ→St→Option γ) (c2:List (List P.S44)) (c3:Int):∀ k:Nat,(fun (v1:List P.S44) (v4:Int)=>cZ.C.lK 0 81 2 Tryz.f81 YK rl 0 k (cZ.l1.p.mk' [.l .gr v1,.l (.sl 44 .gr) c2,.i c3,.i v4]) K)=(fun (v1:List P.S44) (v4:Int)=>cZ.l1.g YK k K [.l .gr v1,.l (.sl 44 .gr) c2,.i c3,.i v4]):=fF (fun R k v1 v4=>cZ.l1T (cZ.l1.c YK K) c2 c3 R k v1 v4) (by kernel_rfl) (fun k=>by kernel_rfl) (fun k=>by kernel_rfl)
theorem cZ.fH {γ:Type}:(cZ.C (γ:=γ)).Ok:=⟨(all_cons (fun k=>by kernel_rfl) all_nil),(all_cons (by kernel_rfl) all_nil),all_nil⟩
theorem cZ.e0 {γ:Type}:iq (cZ.C (γ:=γ)) ⟨0,81,0,iC [(cZ.l0.p,cZ.l0.g)]⟩:=cZ.fH.kg Tryz.f81 [] (by kernel_rfl) (by kernel_rfl) (by kernel_rfl) (all_cons iJ (all_cons iJ all_nil)) (all_cons (fun YK rl k ls K v hv=>(show cZ.l0.g YK k K ls=some v→_ from fun hv=>by
  unfold cZ.l0.g at hv;split at hv
  · exact (congrFun (congrFun (cZ.l0.eq YK rl K _ _ _ k) _) _).trans hv
  · cases hv) hv) all_nil)
theorem cZ.e1 {γ:Type}:iq (cZ.C (γ:=γ)) ⟨0,81,2,iC [(cZ.l1.p,cZ.l1.g)]⟩:=cZ.fH.kg Tryz.f81 [] (by kernel_rfl) (by kernel_rfl) (by kernel_rfl) (all_cons iJ (all_cons iJ all_nil)) (all_cons (fun YK rl k ls K v hv=>(show cZ.l1.g YK k K ls=some v→_ from fun hv=>by
  unfold cZ.l1.g at hv;split at hv
  · exact (congrFun (congrFun (cZ.l1.eq YK rl K _ _ k) _) _).trans hv
  · cases hv) hv) all_nil)
theorem cZ.ok (k:Nat):jk Tryz.prog 81 (cZ.m k).s:=okW cZ.fH 0 Tryz.f81 k all_nil (fun k=>all_cons (eD.ok k) (all_nil)) (all_cons ⟨Tryz.func81,by kernel_rfl⟩ all_nil) (all_cons cZ.e0 (all_cons cZ.e1 all_nil)) (by kernel_rfl) (by kernel_rfl) (fun a=>by kernel_rfl)
end Go.Proofs.YtcomnjodjijcmaaGreat.R
