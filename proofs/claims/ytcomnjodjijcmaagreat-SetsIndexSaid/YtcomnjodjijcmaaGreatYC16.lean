/- Lemmas for laws of chapter 7: what the functions that they reach compute. No condition of its own. -/
import Derived.Test.YtcomnjodjijcmaaGreatYC9
import Derived.Test.YtcomnjodjijcmaaGreatYC10
import Derived.Test.YtcomnjodjijcmaaGreatYC12
import Derived.Test.YtcomnjodjijcmaaGreatYC13
import Derived.Test.YtcomnjodjijcmaaGreatYC14
import Derived.Test.YtcomnjodjijcmaaGreatYC15
import Derived.Test.YtcomnjodjijcmaaGreatYC2
import Derived.Deep.SlicePairs
import Derived.ChangeArms
import Derived.ProofKit
import Derived.Deep.Slices
namespace Go.Proofs.YtcomnjodjijcmaaGreat.R
open M Go.RowKit Go.Proofs.YtcomnjodjijcmaaGreatW.dB Go.Proofs.YtcomnjodjijcmaaGreatW.d9 Go.Proofs.YtcomnjodjijcmaaGreatW.eO
set_option linter.unusedVariables false
noncomputable def gD.m (k:Nat):Sm:=jm [.fm,.fm] [.pl (.sl 3 (.int .i64))] (fun a=>gD.f k a.1.f0 a.1.f1 a.1.f2 a.1.f3 a.2.1.f0 a.2.1.f1 a.2.1.f2 a.2.1.f3)
noncomputable def gD.l0.p:PS:=⟨nOs 5++[.one (.mu 3 (.int .i64))]++nOs 7++[.one (.o 44 .gr),.one (.i .i64),.one (.i .i64)]++nOs 13,[.box 25 [.i .i64,.i .i64,.s (.sl 42 .sp),.s .gr],.box 25 [.i .i64,.i .i64,.s (.sl 42 .sp),.s .gr]]⟩
noncomputable def gD.l0.c {γ:Type} (YK:HdK γ) (K:dQ→St→Option γ) (c5:Int) (c6:Int) (c7:List (List P.S42)) (c8:List P.S44) (c9:Int) (c10:Int) (c11:List (List P.S42)) (c12:List P.S44):=(fun y1=>K (.exit 0) ((⟨nOs 5++[.one (.mu 3 (.int .i64))]++nOs 23,[.box 25 [.i .i64,.i .i64,.s (.sl 42 .sp),.s .gr],.box 25 [.i .i64,.i .i64,.s (.sl 42 .sp),.s .gr]]⟩:PS).mk' [.l (.int .i64) y1,.i c5,.i c6,.l (.sl 42 .sp) c7,.l .gr c8,.i c9,.i c10,.l (.sl 42 .sp) c11,.l .gr c12]))
noncomputable def gD.l0.g {γ:Type} (YK:HdK γ) (k:Nat) (K:dQ→St→Option γ):List Lf→Option γ
  | [.l (.int .i64) v1,.l .gr c2,.i c3,.i v4,.i c5,.i c6,.l (.sl 42 .sp) c7,.l .gr c8,.i c9,.i c10,.l (.sl 42 .sp) c11,.l .gr c12]=>gD.l0 (gD.l0.c YK K c5 c6 c7 c8 c9 c10 c11 c12) c2 c3 k v1 v4
  | _=>none
noncomputable def gD.C {γ:Type}:Ctx γ:=mkC (fun k=>mkE [(114,fG.m k)] []) [(62,Tryz.f62)] [(62,mkA [19] [(0,[5,13,14,15])] [(0,[5])] [(1,[],[.mu (.tm 5)]),(7,[.op (.tm 5)],[])])] [⟨1,62,0,iC [(gD.l0.p,gD.l0.g)]⟩] []
theorem gD.l0.eq {γ:Type} (YK:HdK γ) (rl:Option Nat) (K:dQ→St→Option γ) (c2:List P.S44) (c3:Int) (c5:Int) (c6:Int) (c7:List (List P.S42)) (c8:List P.S44) (c9:Int) (c10:Int) (c11:List (List P.S42)) (c12:List P.S44):∀ k:Nat,(fun (v1:List Int) (v4:Int)=>gD.C.lK 1 62 0 Tryz.f62 YK rl 2 k (gD.l0.p.mk' [.l (.int .i64) v1,.l .gr c2,.i c3,.i v4,.i c5,.i c6,.l (.sl 42 .sp) c7,.l .gr c8,.i c9,.i c10,.l (.sl 42 .sp) c11,.l .gr c12]) K)=(fun (v1:List Int) (v4:Int)=>gD.l0.g YK k K [.l (.int .i64) v1,.l .gr c2,.i c3,.i v4,.i c5,.i c6,.l (.sl 42 .sp) c7,.l .gr c8,.i c9,.i c10,.l (.sl 42 .sp) c11,.l .gr c12]):=fF (fun R k v1 v4=>gD.l0T (gD.l0.c YK K c5 c6 c7 c8 c9 c10 c11 c12) c2 c3 R k v1 v4) (by kernel_rfl) (fun k=>by kernel_rfl) (fun k=>by kernel_rfl)
noncomputable def gY.l0.p:PS:=⟨nOs 8++[.one (.fn 61 [0,1])]++nOs 20++[.one (.s (.int .i64)),.one (.i .i64),.one (.i .i64)]++nOs 8,[.box 25 [.i .i64,.i .i64,.s (.sl 42 .sp),.s .gr],.box 25 [.i .i64,.i .i64,.s (.sl 42 .sp),.s .gr]]⟩
noncomputable def gY.l0.c {γ:Type} (YK:HdK γ) (K:dQ→St→Option γ) (c4:Int) (c5:Int) (c6:List (List P.S42)) (c7:List P.S44) (c8:Int) (c9:Int) (c10:List (List P.S42)) (c11:List P.S44):=((K .ret ((⟨nOs 4++[.one (.lb false),.one (.li .i64 0)]++nOs 34,[.box 25 [.i .i64,.i .i64,.s (.sl 42 .sp),.s .gr],.box 25 [.i .i64,.i .i64,.s (.sl 42 .sp),.s .gr]]⟩:PS).mk' [.i c4,.i c5,.l (.sl 42 .sp) c6,.l .gr c7,.i c8,.i c9,.l (.sl 42 .sp) c10,.l .gr c11])),(K (.exit 0) ((⟨nOs 40,[.box 25 [.i .i64,.i .i64,.s (.sl 42 .sp),.s .gr],.box 25 [.i .i64,.i .i64,.s (.sl 42 .sp),.s .gr]]⟩:PS).mk' [.i c4,.i c5,.l (.sl 42 .sp) c6,.l .gr c7,.i c8,.i c9,.l (.sl 42 .sp) c10,.l .gr c11])))
noncomputable def gY.l0.g {γ:Type} (YK:HdK γ) (k:Nat) (K:dQ→St→Option γ):List Lf→Option γ
  | [.l (.int .i64) c1,.i c2,.i v3,.i c4,.i c5,.l (.sl 42 .sp) c6,.l .gr c7,.i c8,.i c9,.l (.sl 42 .sp) c10,.l .gr c11]=>let q:=gY.l0.c YK K c4 c5 c6 c7 c8 c9 c10 c11;gY.l0 q.1 q.2 c1 c2 c4 c5 c6 c7 c8 c9 c10 c11 k v3
  | _=>none
noncomputable def gY.C {γ:Type}:Ctx γ:=mkC (fun k=>mkE [(19,fM.m k),(20,fu.m k),(59,fZ.m k),(60,fI.m k),(62,gD.m k)] []) [(22,Tryz.f22),(61,Tryz.f61)] [(22,mkA [] [(0,[8,29,30,31])] [(0,[4,5])] []),(61,mkA [] [] [] [])] [⟨1,22,0,iC [(gY.l0.p,gY.l0.g)]⟩] []
theorem gY.l0.eq {γ:Type} (YK:HdK γ) (rl:Option Nat) (K:dQ→St→Option γ) (c1:List Int) (c2:Int) (c4:Int) (c5:Int) (c6:List (List P.S42)) (c7:List P.S44) (c8:Int) (c9:Int) (c10:List (List P.S42)) (c11:List P.S44):∀ k:Nat,(fun (v3:Int)=>gY.C.lK 1 22 0 Tryz.f22 YK rl 2 k (gY.l0.p.mk' [.l (.int .i64) c1,.i c2,.i v3,.i c4,.i c5,.l (.sl 42 .sp) c6,.l .gr c7,.i c8,.i c9,.l (.sl 42 .sp) c10,.l .gr c11]) K)=(fun (v3:Int)=>gY.l0.g YK k K [.l (.int .i64) c1,.i c2,.i v3,.i c4,.i c5,.l (.sl 42 .sp) c6,.l .gr c7,.i c8,.i c9,.l (.sl 42 .sp) c10,.l .gr c11]):=fF (fun R k v3=>gY.l0T (gY.l0.c YK K c4 c5 c6 c7 c8 c9 c10 c11).1 (gY.l0.c YK K c4 c5 c6 c7 c8 c9 c10 c11).2 c1 c2 c4 c5 c6 c7 c8 c9 c10 c11 R k v3) (by kernel_rfl) (fun k=>by kernel_rfl) (fun k=>by kernel_rfl)
noncomputable def eF.m (k:Nat):Sm:=jm [(.sl 42 .sp),.bool] [.pl (.int .i64)] (fun a=>eF.f k a.1 a.2.1)
noncomputable def eF.C {γ:Type}:Ctx γ:=mkC (fun k=>mkE [] []) [(151,Tryz.f151)] [(151,mkA [] [] [] [])] [] []
theorem eF.fH {γ:Type}:(eF.C (γ:=γ)).Ok:=⟨(all_cons (fun k=>by kernel_rfl) all_nil),(all_cons (by kernel_rfl) all_nil),all_nil⟩
theorem eF.ok (k:Nat):jk Tryz.prog 151 (eF.m k).s:=okW eF.fH 0 Tryz.f151 k all_nil (fun k=>all_nil) (all_cons ⟨Tryz.func151,by kernel_rfl⟩ all_nil) all_nil (by kernel_rfl) (by kernel_rfl) (fun a=>by kernel_rfl)
noncomputable def fE.m (k:Nat):Sm:=jm [(.sl 42 .sp),.bool,(.int .i64)] [.pl (.sl 42 .sp),.pl .bool] (fun a=>fE.f k a.1 a.2.1 a.2.2.1)
noncomputable def fE.C {γ:Type}:Ctx γ:=mkC (fun k=>mkE [] []) [(153,Tryz.f153)] [(153,mkA [42,43] [] [] [])] [] []
theorem fE.fH {γ:Type}:(fE.C (γ:=γ)).Ok:=⟨(all_cons (fun k=>by kernel_rfl) all_nil),(all_cons (by kernel_rfl) all_nil),all_nil⟩
theorem fE.ok (k:Nat):jk Tryz.prog 153 (fE.m k).s:=okW fE.fH 0 Tryz.f153 k all_nil (fun k=>all_nil) (all_cons ⟨Tryz.func153,by kernel_rfl⟩ all_nil) all_nil (by kernel_rfl) (by kernel_rfl) (fun a=>by kernel_rfl)
noncomputable def iE.m (k:Nat):Sm:=jm [.bool,.bool] [.pl .bool] (fun a=>iE.f k a.1 a.2.1)
noncomputable def iE.C {γ:Type}:Ctx γ:=mkC (fun k=>mkE [] []) [(64,Tryz.f64)] [(64,mkA [] [] [] [])] [] []
theorem iE.fH {γ:Type}:(iE.C (γ:=γ)).Ok:=⟨(all_cons (fun k=>by kernel_rfl) all_nil),(all_cons (by kernel_rfl) all_nil),all_nil⟩
theorem iE.ok (k:Nat):jk Tryz.prog 64 (iE.m k).s:=okW iE.fH 0 Tryz.f64 k all_nil (fun k=>all_nil) (all_cons ⟨Tryz.func64,by kernel_rfl⟩ all_nil) all_nil (by kernel_rfl) (by kernel_rfl) (fun a=>by kernel_rfl)
noncomputable def dX.m (k:Nat):Sm:=jm [(.sl 42 .sp),(.sl 42 .sp)] [.own 42 .sp] (fun a=>dX.f k a.1 a.2.1)
noncomputable def dX.y0.p0:List PB:=[.box 78 [.fn 64 []],.box 37 [.o 42 .sp],.box 4 [.b],.box 3 [.i .i64],.box 37 [.s .sp],.box 37 [.s .sp],.box 144 [.fn 151 []],.lp .normal]
noncomputable def dX.y0 {γ:Type} (x:AV) (bx:List Bx) (x0:(List P.S42)→Bool→Int→(List P.S42)→(List P.S42)→Option γ):Option γ :=
  match yrd true dX.y0.p0 x bx with
  | some [.l .sp z1,.b z2,.i z3,.l .sp z4,.l .sp z5]=>(x0 z1 z2 z3 z4 z5)
  | _=>none
noncomputable def dX.y0T {γ:Type}:YdK γ:=fun K x bx=>dX.y0 x bx (fun z1 z2 z3 z4 z5=>K (lW true) (xK dX.y0.p0 [.l .sp z1,.b z2,.i z3,.l .sp z4,.l .sp z5]).1)
theorem dX.oH {γ:Type}:aar (dX.y0T (γ:=γ)):=fun K x bx v h=>by
  unfold dX.y0T dX.y0 at h;split at h
  · rename_i hy
    obtain ⟨rfl,rfl⟩:=oG hy;exact h
  · cases h
noncomputable def dX.l0.p:PS:=⟨[.one (.yl 7),.one (.bp 4 0),.one (.bp 5 0),.one (.bp 6 0),nO,.one (.b),.one (.b)]++nOs 53,[.box 78 [.fn 64 []],.box 37 [.o 42 .sp],.box 4 [.b],.box 3 [.i .i64],.box 37 [.s .sp],.box 37 [.s .sp],.box 144 [.fn 151 []],.lp .normal]⟩
noncomputable def dX.l0.c {γ:Type} (YK:HdK γ) (K:dQ→St→Option γ)  := ((fun q0 q1 q2 q3 q4 q5 q6 q7 x0=>(YK 7).bind fun h=>h [.pt (.agg [.v (.int .i64 q0),.v (.bool q1),.v (.bool q2)])] [.box 78 [.fn 64 []],.box 37 [.ow 42 .sp q3],.box 4 [.v (.bool q4)],.box 3 [.v (.int .i64 q5)],.box 37 [.sl .sp q6],.box 37 [.sl .sp q7],.box 144 [.fn 151 []],.lp .normal] (fun x bx=>dX.y0 x bx x0)),(fun y1 y2 y3 y4 y5=>K (.exit 0) ((⟨nOs 60,[.box 78 [.fn 64 []],.box 37 [.o 42 .sp],.box 4 [.b],.box 3 [.i .i64],.box 37 [.s .sp],.box 37 [.s .sp],.box 144 [.fn 151 []],.lp .normal]⟩:PS).mk' [.l .sp y1,.b y2,.i y3,.l .sp y4,.l .sp y5])))
noncomputable def dX.l0.g {γ:Type} (YK:HdK γ) (k:Nat) (K:dQ→St→Option γ):List Lf→Option γ
  | [.b v1,.b v2,.l .sp v3,.b v4,.i v5,.l .sp v6,.l .sp v7]=>let q:=dX.l0.c YK K;dX.l0 q.1 q.2 k v1 v2 v3 v4 v5 v6 v7
  | _=>none
noncomputable def dX.C {γ:Type}:Ctx γ:=mkC (fun k=>mkE [(64,iE.m k),(151,eF.m k),(153,fE.m k)] []) [(23,Tryz.f23),(63,Tryz.f63),(115,Tryz.f115),(152,Tryz.f152)] [(23,mkA [] [] [] []),(63,mkA [36,45] [] [] []),(115,mkA [] [] [] []),(152,mkA [100014,100018] [(0,[0,1,2,3,5,6])] [(0,[])] [])] [⟨1,152,0,iC [(dX.l0.p,dX.l0.g)]⟩] [⟨1,152,7,dX.y0T⟩]
theorem dX.l0.eq {γ:Type} (YK:HdK γ) (rl:Option Nat) (K:dQ→St→Option γ)  : ∀ k:Nat,(fun (v1:Bool) (v2:Bool) (v3:List P.S42) (v4:Bool) (v5:Int) (v6:List P.S42) (v7:List P.S42)=>dX.C.lK 1 152 0 Tryz.f152 YK rl 8 k (dX.l0.p.mk' [.b v1,.b v2,.l .sp v3,.b v4,.i v5,.l .sp v6,.l .sp v7]) K)=(fun (v1:Bool) (v2:Bool) (v3:List P.S42) (v4:Bool) (v5:Int) (v6:List P.S42) (v7:List P.S42)=>dX.l0.g YK k K [.b v1,.b v2,.l .sp v3,.b v4,.i v5,.l .sp v6,.l .sp v7]):=fF (fun R k v1 v2 v3 v4 v5 v6 v7=>dX.l0T (dX.l0.c YK K).1 (dX.l0.c YK K).2 R k v1 v2 v3 v4 v5 v6 v7) (by kernel_rfl) (fun k=>by kernel_rfl) (fun k=>by kernel_rfl)
theorem dX.fH {γ:Type}:(dX.C (γ:=γ)).Ok:=⟨(all_cons (fun k=>by kernel_rfl) (all_cons (fun k=>by kernel_rfl) (all_cons (fun k=>by kernel_rfl) (all_cons (fun k=>by kernel_rfl) all_nil)))),(all_cons (by kernel_rfl) (all_cons (by kernel_rfl) (all_cons (by kernel_rfl) (all_cons (by kernel_rfl) all_nil)))),(all_cons dX.oH all_nil)⟩
theorem dX.e0 {γ:Type}:iq (dX.C (γ:=γ)) ⟨1,152,0,iC [(dX.l0.p,dX.l0.g)]⟩:=dX.fH.kg Tryz.f152 [] (by kernel_rfl) (by kernel_rfl) (by kernel_rfl) (all_cons iJ all_nil) (all_cons (fun YK rl k ls K v hv=>(show dX.l0.g YK k K ls=some v→_ from fun hv=>by
  unfold dX.l0.g at hv;split at hv
  · exact (congrFun (congrFun (congrFun (congrFun (congrFun (congrFun (congrFun (dX.l0.eq YK rl K k) _) _) _) _) _) _) _).trans hv
  · cases hv) hv) all_nil)
theorem dX.ok (k:Nat):jk Tryz.prog 23 (dX.m k).s:=okW dX.fH 3 Tryz.f23 k all_nil (fun k=>all_cons (iE.ok k) (all_cons (eF.ok k) (all_cons (fE.ok k) (all_nil)))) (all_cons ⟨Tryz.func23,by kernel_rfl⟩ (all_cons ⟨Tryz.func63,by kernel_rfl⟩ (all_cons ⟨Tryz.func115,by kernel_rfl⟩ (all_cons ⟨Tryz.func152,by kernel_rfl⟩ all_nil)))) (all_cons dX.e0 all_nil) (by kernel_rfl) (by kernel_rfl) (fun a=>by kernel_rfl)
noncomputable def jd.m (k:Nat):Sm:=jm [.bool,.bool] [.pl .bool] (fun a=>jd.f k a.1 a.2.1)
noncomputable def jd.C {γ:Type}:Ctx γ:=mkC (fun k=>mkE [] []) [(65,Tryz.f65)] [(65,mkA [] [] [] [])] [] []
theorem jd.fH {γ:Type}:(jd.C (γ:=γ)).Ok:=⟨(all_cons (fun k=>by kernel_rfl) all_nil),(all_cons (by kernel_rfl) all_nil),all_nil⟩
theorem jd.ok (k:Nat):jk Tryz.prog 65 (jd.m k).s:=okW jd.fH 0 Tryz.f65 k all_nil (fun k=>all_nil) (all_cons ⟨Tryz.func65,by kernel_rfl⟩ all_nil) all_nil (by kernel_rfl) (by kernel_rfl) (fun a=>by kernel_rfl)
noncomputable def eU.m (k:Nat):Sm:=jm [(.sl 42 .sp),(.sl 42 .sp)] [.own 42 .sp] (fun a=>eU.f k a.1 a.2.1)
noncomputable def eU.y0.p0:List PB:=[.box 78 [.fn 65 []],.box 37 [.o 42 .sp],.box 4 [.b],.box 3 [.i .i64],.box 37 [.s .sp],.box 37 [.s .sp],.box 144 [.fn 151 []],.lp .normal]
noncomputable def eU.y0 {γ:Type} (x:AV) (bx:List Bx) (x0:(List P.S42)→Bool→Int→(List P.S42)→(List P.S42)→Option γ):Option γ :=
  match yrd true eU.y0.p0 x bx with
  | some [.l .sp z1,.b z2,.i z3,.l .sp z4,.l .sp z5]=>(x0 z1 z2 z3 z4 z5)
  | _=>none
noncomputable def eU.y0T {γ:Type}:YdK γ:=fun K x bx=>eU.y0 x bx (fun z1 z2 z3 z4 z5=>K (lW true) (xK eU.y0.p0 [.l .sp z1,.b z2,.i z3,.l .sp z4,.l .sp z5]).1)
theorem eU.oH {γ:Type}:aar (eU.y0T (γ:=γ)):=fun K x bx v h=>by
  unfold eU.y0T eU.y0 at h;split at h
  · rename_i hy
    obtain ⟨rfl,rfl⟩:=oG hy;exact h
  · cases h
noncomputable def eU.l0.p:PS:=⟨[.one (.yl 7),.one (.bp 4 0),.one (.bp 5 0),.one (.bp 6 0),nO,.one (.b),.one (.b)]++nOs 53,[.box 78 [.fn 65 []],.box 37 [.o 42 .sp],.box 4 [.b],.box 3 [.i .i64],.box 37 [.s .sp],.box 37 [.s .sp],.box 144 [.fn 151 []],.lp .normal]⟩
noncomputable def eU.l0.c {γ:Type} (YK:HdK γ) (K:dQ→St→Option γ)  := ((fun q0 q1 q2 q3 q4 q5 q6 q7 x0=>(YK 7).bind fun h=>h [.pt (.agg [.v (.int .i64 q0),.v (.bool q1),.v (.bool q2)])] [.box 78 [.fn 65 []],.box 37 [.ow 42 .sp q3],.box 4 [.v (.bool q4)],.box 3 [.v (.int .i64 q5)],.box 37 [.sl .sp q6],.box 37 [.sl .sp q7],.box 144 [.fn 151 []],.lp .normal] (fun x bx=>eU.y0 x bx x0)),(fun y1 y2 y3 y4 y5=>K (.exit 0) ((⟨nOs 60,[.box 78 [.fn 65 []],.box 37 [.o 42 .sp],.box 4 [.b],.box 3 [.i .i64],.box 37 [.s .sp],.box 37 [.s .sp],.box 144 [.fn 151 []],.lp .normal]⟩:PS).mk' [.l .sp y1,.b y2,.i y3,.l .sp y4,.l .sp y5])))
noncomputable def eU.l0.g {γ:Type} (YK:HdK γ) (k:Nat) (K:dQ→St→Option γ):List Lf→Option γ
  | [.b v1,.b v2,.l .sp v3,.b v4,.i v5,.l .sp v6,.l .sp v7]=>let q:=eU.l0.c YK K;eU.l0 q.1 q.2 k v1 v2 v3 v4 v5 v6 v7
  | _=>none
noncomputable def eU.C {γ:Type}:Ctx γ:=mkC (fun k=>mkE [(65,jd.m k),(151,eF.m k),(153,fE.m k)] []) [(24,Tryz.f24),(63,Tryz.f63),(115,Tryz.f115),(152,Tryz.f152)] [(24,mkA [] [] [] []),(63,mkA [36,45] [] [] []),(115,mkA [] [] [] []),(152,mkA [100014,100018] [(0,[0,1,2,3,5,6])] [(0,[])] [])] [⟨1,152,0,iC [(eU.l0.p,eU.l0.g)]⟩] [⟨1,152,7,eU.y0T⟩]
theorem eU.l0.eq {γ:Type} (YK:HdK γ) (rl:Option Nat) (K:dQ→St→Option γ)  : ∀ k:Nat,(fun (v1:Bool) (v2:Bool) (v3:List P.S42) (v4:Bool) (v5:Int) (v6:List P.S42) (v7:List P.S42)=>eU.C.lK 1 152 0 Tryz.f152 YK rl 8 k (eU.l0.p.mk' [.b v1,.b v2,.l .sp v3,.b v4,.i v5,.l .sp v6,.l .sp v7]) K)=(fun (v1:Bool) (v2:Bool) (v3:List P.S42) (v4:Bool) (v5:Int) (v6:List P.S42) (v7:List P.S42)=>eU.l0.g YK k K [.b v1,.b v2,.l .sp v3,.b v4,.i v5,.l .sp v6,.l .sp v7]):=fF (fun R k v1 v2 v3 v4 v5 v6 v7=>eU.l0T (eU.l0.c YK K).1 (eU.l0.c YK K).2 R k v1 v2 v3 v4 v5 v6 v7) (by kernel_rfl) (fun k=>by kernel_rfl) (fun k=>by kernel_rfl)
theorem eU.fH {γ:Type}:(eU.C (γ:=γ)).Ok:=⟨(all_cons (fun k=>by kernel_rfl) (all_cons (fun k=>by kernel_rfl) (all_cons (fun k=>by kernel_rfl) (all_cons (fun k=>by kernel_rfl) all_nil)))),(all_cons (by kernel_rfl) (all_cons (by kernel_rfl) (all_cons (by kernel_rfl) (all_cons (by kernel_rfl) all_nil)))),(all_cons eU.oH all_nil)⟩
theorem eU.e0 {γ:Type}:iq (eU.C (γ:=γ)) ⟨1,152,0,iC [(eU.l0.p,eU.l0.g)]⟩:=eU.fH.kg Tryz.f152 [] (by kernel_rfl) (by kernel_rfl) (by kernel_rfl) (all_cons iJ all_nil) (all_cons (fun YK rl k ls K v hv=>(show eU.l0.g YK k K ls=some v→_ from fun hv=>by
  unfold eU.l0.g at hv;split at hv
  · exact (congrFun (congrFun (congrFun (congrFun (congrFun (congrFun (congrFun (eU.l0.eq YK rl K k) _) _) _) _) _) _) _).trans hv
  · cases hv) hv) all_nil)
theorem eU.ok (k:Nat):jk Tryz.prog 24 (eU.m k).s:=okW eU.fH 3 Tryz.f24 k all_nil (fun k=>all_cons (jd.ok k) (all_cons (eF.ok k) (all_cons (fE.ok k) (all_nil)))) (all_cons ⟨Tryz.func24,by kernel_rfl⟩ (all_cons ⟨Tryz.func63,by kernel_rfl⟩ (all_cons ⟨Tryz.func115,by kernel_rfl⟩ (all_cons ⟨Tryz.func152,by kernel_rfl⟩ all_nil)))) (all_cons eU.e0 all_nil) (by kernel_rfl) (by kernel_rfl) (fun a=>by kernel_rfl)
noncomputable def iP.m (k:Nat):Sm:=jm [.bool,.bool] [.pl .bool] (fun a=>iP.f k a.1 a.2.1)
noncomputable def iP.C {γ:Type}:Ctx γ:=mkC (fun k=>mkE [] []) [(66,Tryz.f66)] [(66,mkA [] [] [] [])] [] []
theorem iP.fH {γ:Type}:(iP.C (γ:=γ)).Ok:=⟨(all_cons (fun k=>by kernel_rfl) all_nil),(all_cons (by kernel_rfl) all_nil),all_nil⟩
theorem iP.ok (k:Nat):jk Tryz.prog 66 (iP.m k).s:=okW iP.fH 0 Tryz.f66 k all_nil (fun k=>all_nil) (all_cons ⟨Tryz.func66,by kernel_rfl⟩ all_nil) all_nil (by kernel_rfl) (by kernel_rfl) (fun a=>by kernel_rfl)
noncomputable def dV.m (k:Nat):Sm:=jm [(.sl 42 .sp),(.sl 42 .sp)] [.own 42 .sp] (fun a=>dV.f k a.1 a.2.1)
noncomputable def dV.y0.p0:List PB:=[.box 78 [.fn 66 []],.box 37 [.o 42 .sp],.box 4 [.b],.box 3 [.i .i64],.box 37 [.s .sp],.box 37 [.s .sp],.box 144 [.fn 151 []],.lp .normal]
noncomputable def dV.y0 {γ:Type} (x:AV) (bx:List Bx) (x0:(List P.S42)→Bool→Int→(List P.S42)→(List P.S42)→Option γ):Option γ :=
  match yrd true dV.y0.p0 x bx with
  | some [.l .sp z1,.b z2,.i z3,.l .sp z4,.l .sp z5]=>(x0 z1 z2 z3 z4 z5)
  | _=>none
noncomputable def dV.y0T {γ:Type}:YdK γ:=fun K x bx=>dV.y0 x bx (fun z1 z2 z3 z4 z5=>K (lW true) (xK dV.y0.p0 [.l .sp z1,.b z2,.i z3,.l .sp z4,.l .sp z5]).1)
theorem dV.oH {γ:Type}:aar (dV.y0T (γ:=γ)):=fun K x bx v h=>by
  unfold dV.y0T dV.y0 at h;split at h
  · rename_i hy
    obtain ⟨rfl,rfl⟩:=oG hy;exact h
  · cases h
noncomputable def dV.l0.p:PS:=⟨[.one (.yl 7),.one (.bp 4 0),.one (.bp 5 0),.one (.bp 6 0),nO,.one (.b),.one (.b)]++nOs 53,[.box 78 [.fn 66 []],.box 37 [.o 42 .sp],.box 4 [.b],.box 3 [.i .i64],.box 37 [.s .sp],.box 37 [.s .sp],.box 144 [.fn 151 []],.lp .normal]⟩
noncomputable def dV.l0.c {γ:Type} (YK:HdK γ) (K:dQ→St→Option γ)  := ((fun q0 q1 q2 q3 q4 q5 q6 q7 x0=>(YK 7).bind fun h=>h [.pt (.agg [.v (.int .i64 q0),.v (.bool q1),.v (.bool q2)])] [.box 78 [.fn 66 []],.box 37 [.ow 42 .sp q3],.box 4 [.v (.bool q4)],.box 3 [.v (.int .i64 q5)],.box 37 [.sl .sp q6],.box 37 [.sl .sp q7],.box 144 [.fn 151 []],.lp .normal] (fun x bx=>dV.y0 x bx x0)),(fun y1 y2 y3 y4 y5=>K (.exit 0) ((⟨nOs 60,[.box 78 [.fn 66 []],.box 37 [.o 42 .sp],.box 4 [.b],.box 3 [.i .i64],.box 37 [.s .sp],.box 37 [.s .sp],.box 144 [.fn 151 []],.lp .normal]⟩:PS).mk' [.l .sp y1,.b y2,.i y3,.l .sp y4,.l .sp y5])))
noncomputable def dV.l0.g {γ:Type} (YK:HdK γ) (k:Nat) (K:dQ→St→Option γ):List Lf→Option γ
  | [.b v1,.b v2,.l .sp v3,.b v4,.i v5,.l .sp v6,.l .sp v7]=>let q:=dV.l0.c YK K;dV.l0 q.1 q.2 k v1 v2 v3 v4 v5 v6 v7
  | _=>none
noncomputable def dV.C {γ:Type}:Ctx γ:=mkC (fun k=>mkE [(66,iP.m k),(151,eF.m k),(153,fE.m k)] []) [(25,Tryz.f25),(63,Tryz.f63),(115,Tryz.f115),(152,Tryz.f152)] [(25,mkA [] [] [] []),(63,mkA [36,45] [] [] []),(115,mkA [] [] [] []),(152,mkA [100014,100018] [(0,[0,1,2,3,5,6])] [(0,[])] [])] [⟨1,152,0,iC [(dV.l0.p,dV.l0.g)]⟩] [⟨1,152,7,dV.y0T⟩]
theorem dV.l0.eq {γ:Type} (YK:HdK γ) (rl:Option Nat) (K:dQ→St→Option γ)  : ∀ k:Nat,(fun (v1:Bool) (v2:Bool) (v3:List P.S42) (v4:Bool) (v5:Int) (v6:List P.S42) (v7:List P.S42)=>dV.C.lK 1 152 0 Tryz.f152 YK rl 8 k (dV.l0.p.mk' [.b v1,.b v2,.l .sp v3,.b v4,.i v5,.l .sp v6,.l .sp v7]) K)=(fun (v1:Bool) (v2:Bool) (v3:List P.S42) (v4:Bool) (v5:Int) (v6:List P.S42) (v7:List P.S42)=>dV.l0.g YK k K [.b v1,.b v2,.l .sp v3,.b v4,.i v5,.l .sp v6,.l .sp v7]):=fF (fun R k v1 v2 v3 v4 v5 v6 v7=>dV.l0T (dV.l0.c YK K).1 (dV.l0.c YK K).2 R k v1 v2 v3 v4 v5 v6 v7) (by kernel_rfl) (fun k=>by kernel_rfl) (fun k=>by kernel_rfl)
theorem dV.fH {γ:Type}:(dV.C (γ:=γ)).Ok:=⟨(all_cons (fun k=>by kernel_rfl) (all_cons (fun k=>by kernel_rfl) (all_cons (fun k=>by kernel_rfl) (all_cons (fun k=>by kernel_rfl) all_nil)))),(all_cons (by kernel_rfl) (all_cons (by kernel_rfl) (all_cons (by kernel_rfl) (all_cons (by kernel_rfl) all_nil)))),(all_cons dV.oH all_nil)⟩
theorem dV.e0 {γ:Type}:iq (dV.C (γ:=γ)) ⟨1,152,0,iC [(dV.l0.p,dV.l0.g)]⟩:=dV.fH.kg Tryz.f152 [] (by kernel_rfl) (by kernel_rfl) (by kernel_rfl) (all_cons iJ all_nil) (all_cons (fun YK rl k ls K v hv=>(show dV.l0.g YK k K ls=some v→_ from fun hv=>by
  unfold dV.l0.g at hv;split at hv
  · exact (congrFun (congrFun (congrFun (congrFun (congrFun (congrFun (congrFun (dV.l0.eq YK rl K k) _) _) _) _) _) _) _).trans hv
  · cases hv) hv) all_nil)
theorem dV.ok (k:Nat):jk Tryz.prog 25 (dV.m k).s:=okW dV.fH 3 Tryz.f25 k all_nil (fun k=>all_cons (iP.ok k) (all_cons (eF.ok k) (all_cons (fE.ok k) (all_nil)))) (all_cons ⟨Tryz.func25,by kernel_rfl⟩ (all_cons ⟨Tryz.func63,by kernel_rfl⟩ (all_cons ⟨Tryz.func115,by kernel_rfl⟩ (all_cons ⟨Tryz.func152,by kernel_rfl⟩ all_nil)))) (all_cons dV.e0 all_nil) (by kernel_rfl) (by kernel_rfl) (fun a=>by kernel_rfl)
noncomputable def iB.m (k:Nat):Sm:=jm [.gr,.gr] [.pl .bool] (fun a=>iB.f k a.1.f0 a.1.f1 a.2.1.f0 a.2.1.f1)
noncomputable def iB.C {γ:Type}:Ctx γ:=mkC (fun k=>mkE [(20,fu.m k)] []) [(118,Tryz.f118)] [(118,mkA [] [] [] [])] [] []
theorem iB.fH {γ:Type}:(iB.C (γ:=γ)).Ok:=⟨(all_cons (fun k=>by kernel_rfl) all_nil),(all_cons (by kernel_rfl) all_nil),all_nil⟩
theorem iB.ok (k:Nat):jk Tryz.prog 118 (iB.m k).s:=okW iB.fH 0 Tryz.f118 k all_nil (fun k=>all_cons (fu.ok k) (all_nil)) (all_cons ⟨Tryz.func118,by kernel_rfl⟩ all_nil) all_nil (by kernel_rfl) (by kernel_rfl) (fun a=>by kernel_rfl)
noncomputable def dL.m (k:Nat):Sm:=jm [.fm,.fm] [.pl .bool] (fun a=>dL.f k a.1.f0 a.1.f1 a.1.f2 a.1.f3 a.2.1.f0 a.2.1.f1 a.2.1.f2 a.2.1.f3)
noncomputable def dL.l0.p:PS:=⟨[nO,.one (.s (.sl 42 .sp)),.one (.fn 20 [])]++nOs 12++[.one (.s (.sl 42 .sp)),.one (.i .i64),.one (.i .i64)]++nOs 14,[.box 25 [.i .i64,.i .i64,.s (.sl 42 .sp),.s .gr],.box 25 [.i .i64,.i .i64,.s (.sl 42 .sp),.s .gr]]⟩
noncomputable def dL.l0.c {γ:Type} (YK:HdK γ) (K:dQ→St→Option γ) (c5:Int) (c6:Int) (c7:List (List P.S42)) (c8:List P.S44) (c9:Int) (c10:Int) (c11:List (List P.S42)) (c12:List P.S44):=((K .ret ((⟨nOs 6++[.one (.lb false)]++nOs 25,[.box 25 [.i .i64,.i .i64,.s (.sl 42 .sp),.s .gr],.box 25 [.i .i64,.i .i64,.s (.sl 42 .sp),.s .gr]]⟩:PS).mk' [.i c5,.i c6,.l (.sl 42 .sp) c7,.l .gr c8,.i c9,.i c10,.l (.sl 42 .sp) c11,.l .gr c12])),(K (.exit 0) ((⟨nOs 32,[.box 25 [.i .i64,.i .i64,.s (.sl 42 .sp),.s .gr],.box 25 [.i .i64,.i .i64,.s (.sl 42 .sp),.s .gr]]⟩:PS).mk' [.i c5,.i c6,.l (.sl 42 .sp) c7,.l .gr c8,.i c9,.i c10,.l (.sl 42 .sp) c11,.l .gr c12])))
noncomputable def dL.l0.g {γ:Type} (YK:HdK γ) (k:Nat) (K:dQ→St→Option γ):List Lf→Option γ
  | [.l (.sl 42 .sp) c1,.l (.sl 42 .sp) c2,.i c3,.i v4,.i c5,.i c6,.l (.sl 42 .sp) c7,.l .gr c8,.i c9,.i c10,.l (.sl 42 .sp) c11,.l .gr c12]=>let q:=dL.l0.c YK K c5 c6 c7 c8 c9 c10 c11 c12;dL.l0 q.1 q.2 c1 c2 c3 k v4
  | _=>none
noncomputable def dL.l1.p:PS:=⟨[nO,.one (.s .gr),.one (.fn 118 [])]++nOs 12++[.one (.s .gr),.one (.i .i64),.one (.i .i64)]++nOs 14,[.box 25 [.i .i64,.i .i64,.s (.sl 42 .sp),.s .gr],.box 25 [.i .i64,.i .i64,.s (.sl 42 .sp),.s .gr]]⟩
noncomputable def dL.l1.c {γ:Type} (YK:HdK γ) (K:dQ→St→Option γ) (c5:Int) (c6:Int) (c7:List (List P.S42)) (c8:List P.S44) (c9:Int) (c10:Int) (c11:List (List P.S42)) (c12:List P.S44):=((K .ret ((⟨nOs 6++[.one (.lb false)]++nOs 25,[.box 25 [.i .i64,.i .i64,.s (.sl 42 .sp),.s .gr],.box 25 [.i .i64,.i .i64,.s (.sl 42 .sp),.s .gr]]⟩:PS).mk' [.i c5,.i c6,.l (.sl 42 .sp) c7,.l .gr c8,.i c9,.i c10,.l (.sl 42 .sp) c11,.l .gr c12])),(K (.exit 0) ((⟨nOs 32,[.box 25 [.i .i64,.i .i64,.s (.sl 42 .sp),.s .gr],.box 25 [.i .i64,.i .i64,.s (.sl 42 .sp),.s .gr]]⟩:PS).mk' [.i c5,.i c6,.l (.sl 42 .sp) c7,.l .gr c8,.i c9,.i c10,.l (.sl 42 .sp) c11,.l .gr c12])))
noncomputable def dL.l1.g {γ:Type} (YK:HdK γ) (k:Nat) (K:dQ→St→Option γ):List Lf→Option γ
  | [.l .gr c1,.l .gr c2,.i c3,.i v4,.i c5,.i c6,.l (.sl 42 .sp) c7,.l .gr c8,.i c9,.i c10,.l (.sl 42 .sp) c11,.l .gr c12]=>let q:=dL.l1.c YK K c5 c6 c7 c8 c9 c10 c11 c12;dL.l1 q.1 q.2 c1 c2 c3 k v4
  | _=>none
noncomputable def dL.C {γ:Type}:Ctx γ:=mkC (fun k=>mkE [(20,fu.m k),(118,iB.m k)] []) [(67,Tryz.f67),(116,Tryz.f116),(117,Tryz.f117)] [(67,mkA [] [] [] []),(116,mkA [] [(0,[1,2,15,16,17])] [(0,[6])] []),(117,mkA [] [(0,[1,2,15,16,17])] [(0,[6])] [])] [⟨0,116,0,iC [(dL.l0.p,dL.l0.g)]⟩,⟨0,117,0,iC [(dL.l1.p,dL.l1.g)]⟩] []
theorem dL.l0.eq {γ:Type} (YK:HdK γ) (rl:Option Nat) (K:dQ→St→Option γ) (c1:List (List P.S42)) (c2:List (List P.S42)) (c3:Int) (c5:Int) (c6:Int) (c7:List (List P.S42)) (c8:List P.S44) (c9:Int) (c10:Int) (c11:List (List P.S42)) (c12:List P.S44):∀ k:Nat,(fun (v4:Int)=>dL.C.lK 0 116 0 Tryz.f116 YK rl 2 k (dL.l0.p.mk' [.l (.sl 42 .sp) c1,.l (.sl 42 .sp) c2,.i c3,.i v4,.i c5,.i c6,.l (.sl 42 .sp) c7,.l .gr c8,.i c9,.i c10,.l (.sl 42 .sp) c11,.l .gr c12]) K)=(fun (v4:Int)=>dL.l0.g YK k K [.l (.sl 42 .sp) c1,.l (.sl 42 .sp) c2,.i c3,.i v4,.i c5,.i c6,.l (.sl 42 .sp) c7,.l .gr c8,.i c9,.i c10,.l (.sl 42 .sp) c11,.l .gr c12]):=fF (fun R k v4=>dL.l0T (dL.l0.c YK K c5 c6 c7 c8 c9 c10 c11 c12).1 (dL.l0.c YK K c5 c6 c7 c8 c9 c10 c11 c12).2 c1 c2 c3 R k v4) (by kernel_rfl) (fun k=>by kernel_rfl) (fun k=>by kernel_rfl)
theorem dL.l1.eq {γ:Type} (YK:HdK γ) (rl:Option Nat) (K:dQ→St→Option γ) (c1:List P.S44) (c2:List P.S44) (c3:Int) (c5:Int) (c6:Int) (c7:List (List P.S42)) (c8:List P.S44) (c9:Int) (c10:Int) (c11:List (List P.S42)) (c12:List P.S44):∀ k:Nat,(fun (v4:Int)=>dL.C.lK 0 117 0 Tryz.f117 YK rl 2 k (dL.l1.p.mk' [.l .gr c1,.l .gr c2,.i c3,.i v4,.i c5,.i c6,.l (.sl 42 .sp) c7,.l .gr c8,.i c9,.i c10,.l (.sl 42 .sp) c11,.l .gr c12]) K)=(fun (v4:Int)=>dL.l1.g YK k K [.l .gr c1,.l .gr c2,.i c3,.i v4,.i c5,.i c6,.l (.sl 42 .sp) c7,.l .gr c8,.i c9,.i c10,.l (.sl 42 .sp) c11,.l .gr c12]):=fF (fun R k v4=>dL.l1T (dL.l1.c YK K c5 c6 c7 c8 c9 c10 c11 c12).1 (dL.l1.c YK K c5 c6 c7 c8 c9 c10 c11 c12).2 c1 c2 c3 R k v4) (by kernel_rfl) (fun k=>by kernel_rfl) (fun k=>by kernel_rfl)
theorem dL.fH {γ:Type}:(dL.C (γ:=γ)).Ok:=⟨(all_cons (fun k=>by kernel_rfl) (all_cons (fun k=>by kernel_rfl) (all_cons (fun k=>by kernel_rfl) all_nil))),(all_cons (by kernel_rfl) (all_cons (by kernel_rfl) (all_cons (by kernel_rfl) all_nil))),all_nil⟩
theorem dL.e0 {γ:Type}:iq (dL.C (γ:=γ)) ⟨0,116,0,iC [(dL.l0.p,dL.l0.g)]⟩:=dL.fH.kg Tryz.f116 [] (by kernel_rfl) (by kernel_rfl) (by kernel_rfl) (all_cons iJ (all_cons iJ all_nil)) (all_cons (fun YK rl k ls K v hv=>(show dL.l0.g YK k K ls=some v→_ from fun hv=>by
  unfold dL.l0.g at hv;split at hv
  · exact (congrFun (dL.l0.eq YK rl K _ _ _ _ _ _ _ _ _ _ _ k) _).trans hv
  · cases hv) hv) all_nil)
theorem dL.e1 {γ:Type}:iq (dL.C (γ:=γ)) ⟨0,117,0,iC [(dL.l1.p,dL.l1.g)]⟩:=dL.fH.kg Tryz.f117 [] (by kernel_rfl) (by kernel_rfl) (by kernel_rfl) (all_cons iJ (all_cons iJ all_nil)) (all_cons (fun YK rl k ls K v hv=>(show dL.l1.g YK k K ls=some v→_ from fun hv=>by
  unfold dL.l1.g at hv;split at hv
  · exact (congrFun (dL.l1.eq YK rl K _ _ _ _ _ _ _ _ _ _ _ k) _).trans hv
  · cases hv) hv) all_nil)
theorem dL.ok (k:Nat):jk Tryz.prog 67 (dL.m k).s:=okW dL.fH 1 Tryz.f67 k all_nil (fun k=>all_cons (fu.ok k) (all_cons (iB.ok k) (all_nil))) (all_cons ⟨Tryz.func67,by kernel_rfl⟩ (all_cons ⟨Tryz.func116,by kernel_rfl⟩ (all_cons ⟨Tryz.func117,by kernel_rfl⟩ all_nil))) (all_cons dL.e0 (all_cons dL.e1 all_nil)) (by kernel_rfl) (by kernel_rfl) (fun a=>by kernel_rfl)
noncomputable def iZ.m (k:Nat):Sm:=jm [.fm] [.pl .bool] (fun a=>iZ.f k a.1.f0 a.1.f1 a.1.f2 a.1.f3)
noncomputable def iZ.C {γ:Type}:Ctx γ:=mkC (fun k=>mkE [(10,dN.m k),(67,dL.m k)] []) [(26,Tryz.f26)] [(26,mkA [] [] [] [])] [] []
theorem iZ.fH {γ:Type}:(iZ.C (γ:=γ)).Ok:=⟨(all_cons (fun k=>by kernel_rfl) all_nil),(all_cons (by kernel_rfl) all_nil),all_nil⟩
theorem iZ.ok (k:Nat):jk Tryz.prog 26 (iZ.m k).s:=okW iZ.fH 0 Tryz.f26 k all_nil (fun k=>all_cons (dN.ok k) (all_cons (dL.ok k) (all_nil))) (all_cons ⟨Tryz.func26,by kernel_rfl⟩ all_nil) all_nil (by kernel_rfl) (by kernel_rfl) (fun a=>by kernel_rfl)
end Go.Proofs.YtcomnjodjijcmaaGreat.R
namespace Go.Proofs.YtcomnjodjijcmaaGreat.R
open M Go.RowKit Go.Proofs.YtcomnjodjijcmaaGreatW.dB Go.Proofs.YtcomnjodjijcmaaGreatW.d9 Go.Proofs.YtcomnjodjijcmaaGreatW.eO
set_option linter.unusedVariables false
noncomputable def dx.m (k:Nat):Sm:=jm [.fm,(.int .u8),(.int .u8),(.int .i8),(.int .i16)] [.pl .bool] (fun a=>dx.f k a.1.f0 a.1.f1 a.1.f2 a.1.f3 a.2.1 a.2.2.1 a.2.2.2.1 a.2.2.2.2.1)
noncomputable def dx.l0.p:PS:=⟨nOs 11++[.one (.bp 1 0),nO,.one (.bp 2 0),nO,.one (.bp 3 0),nO,.one (.bp 4 0),nO,.one (.bp 5 0),nO,.one (.o 3 (.int .i64))]++nOs 73++[.one (.s .gr),.one (.i .i64),.one (.i .i64)]++nOs 99,[.box 25 [.i .i64,.i .i64,.s (.sl 42 .sp),.s .gr],.box 25 [.i .i64,.i .i64,.s (.sl 42 .sp),.s .gr],.box 25 [.i .i64,.i .i64,.s (.sl 42 .sp),.s .gr],.box 25 [.i .i64,.i .i64,.s (.sl 42 .sp),.s .gr],.box 25 [.i .i64,.i .i64,.s (.sl 42 .sp),.s .gr],.box 25 [.i .i64,.i .i64,.s (.sl 42 .sp),.s .gr]]⟩
noncomputable def dx.l0.c {γ:Type} (YK:HdK γ) (K:dQ→St→Option γ) (c5:Int) (c6:Int) (c7:List (List P.S42)) (c8:List P.S44) (c9:Int) (c10:Int) (c11:List (List P.S42)) (c12:List P.S44) (c13:Int) (c14:Int) (c15:List (List P.S42)) (c16:List P.S44) (c17:Int) (c18:Int) (c19:List (List P.S42)) (c20:List P.S44) (c21:Int) (c22:Int) (c23:List (List P.S42)) (c24:List P.S44) (c25:Int) (c26:Int) (c27:List (List P.S42)) (c28:List P.S44):=(fun y1=>K (.exit 0) ((⟨nOs 11++[.one (.bp 1 0),nO,.one (.bp 2 0),nO,.one (.bp 3 0),nO,.one (.bp 4 0),nO,.one (.bp 5 0),nO,.one (.o 3 (.int .i64))]++nOs 175,[.box 25 [.i .i64,.i .i64,.s (.sl 42 .sp),.s .gr],.box 25 [.i .i64,.i .i64,.s (.sl 42 .sp),.s .gr],.box 25 [.i .i64,.i .i64,.s (.sl 42 .sp),.s .gr],.box 25 [.i .i64,.i .i64,.s (.sl 42 .sp),.s .gr],.box 25 [.i .i64,.i .i64,.s (.sl 42 .sp),.s .gr],.box 25 [.i .i64,.i .i64,.s (.sl 42 .sp),.s .gr]]⟩:PS).mk' [.l (.int .i64) y1,.i c5,.i c6,.l (.sl 42 .sp) c7,.l .gr c8,.i c9,.i c10,.l (.sl 42 .sp) c11,.l .gr c12,.i c13,.i c14,.l (.sl 42 .sp) c15,.l .gr c16,.i c17,.i c18,.l (.sl 42 .sp) c19,.l .gr c20,.i c21,.i c22,.l (.sl 42 .sp) c23,.l .gr c24,.i c25,.i c26,.l (.sl 42 .sp) c27,.l .gr c28]))
noncomputable def dx.l0.g {γ:Type} (YK:HdK γ) (k:Nat) (K:dQ→St→Option γ):List Lf→Option γ
  | [.l (.int .i64) v1,.l .gr c2,.i c3,.i v4,.i c5,.i c6,.l (.sl 42 .sp) c7,.l .gr c8,.i c9,.i c10,.l (.sl 42 .sp) c11,.l .gr c12,.i c13,.i c14,.l (.sl 42 .sp) c15,.l .gr c16,.i c17,.i c18,.l (.sl 42 .sp) c19,.l .gr c20,.i c21,.i c22,.l (.sl 42 .sp) c23,.l .gr c24,.i c25,.i c26,.l (.sl 42 .sp) c27,.l .gr c28]=>dx.l0 (dx.l0.c YK K c5 c6 c7 c8 c9 c10 c11 c12 c13 c14 c15 c16 c17 c18 c19 c20 c21 c22 c23 c24 c25 c26 c27 c28) c2 c3 k v1 v4
  | _=>none
noncomputable def dx.l1.p:PS:=⟨nOs 11++[.one (.bp 1 0),nO,.one (.bp 2 0),nO,.one (.bp 3 0),nO,.one (.bp 4 0),nO,.one (.bp 5 0)]++nOs 87++[.one (.s (.int .i64)),.one (.i .i64),.one (.i .i64)]++nOs 87,[.box 25 [.i .i64,.i .i64,.s (.sl 42 .sp),.s .gr],.box 25 [.i .i64,.i .i64,.s (.sl 42 .sp),.s .gr],.box 25 [.i .i64,.i .i64,.s (.sl 42 .sp),.s .gr],.box 25 [.i .i64,.i .i64,.s (.sl 42 .sp),.s .gr],.box 25 [.i .i64,.i .i64,.s (.sl 42 .sp),.s .gr],.box 25 [.i .i64,.i .i64,.s (.sl 42 .sp),.s .gr]]⟩
noncomputable def dx.l1.c {γ:Type} (YK:HdK γ) (K:dQ→St→Option γ) (c4:Int) (c5:Int) (c6:List (List P.S42)) (c7:List P.S44) (c8:Int) (c9:Int) (c10:List (List P.S42)) (c11:List P.S44) (c12:Int) (c13:Int) (c14:List (List P.S42)) (c15:List P.S44) (c16:Int) (c17:Int) (c18:List (List P.S42)) (c19:List P.S44) (c20:Int) (c21:Int) (c22:List (List P.S42)) (c23:List P.S44) (c24:Int) (c25:Int) (c26:List (List P.S42)) (c27:List P.S44):=((K .ret ((⟨nOs 10++[.one (.lb false)]++nOs 4++[.one (.bp 3 0),nO,.one (.bp 4 0),nO,.one (.bp 5 0)]++nOs 177,[.box 25 [.i .i64,.i .i64,.s (.sl 42 .sp),.s .gr],.box 25 [.i .i64,.i .i64,.s (.sl 42 .sp),.s .gr],.box 25 [.i .i64,.i .i64,.s (.sl 42 .sp),.s .gr],.box 25 [.i .i64,.i .i64,.s (.sl 42 .sp),.s .gr],.box 25 [.i .i64,.i .i64,.s (.sl 42 .sp),.s .gr],.box 25 [.i .i64,.i .i64,.s (.sl 42 .sp),.s .gr]]⟩:PS).mk' [.i c4,.i c5,.l (.sl 42 .sp) c6,.l .gr c7,.i c8,.i c9,.l (.sl 42 .sp) c10,.l .gr c11,.i c12,.i c13,.l (.sl 42 .sp) c14,.l .gr c15,.i c16,.i c17,.l (.sl 42 .sp) c18,.l .gr c19,.i c20,.i c21,.l (.sl 42 .sp) c22,.l .gr c23,.i c24,.i c25,.l (.sl 42 .sp) c26,.l .gr c27])),(K (.exit 2) ((⟨nOs 15++[.one (.bp 3 0),nO,.one (.bp 4 0),nO,.one (.bp 5 0)]++nOs 177,[.box 25 [.i .i64,.i .i64,.s (.sl 42 .sp),.s .gr],.box 25 [.i .i64,.i .i64,.s (.sl 42 .sp),.s .gr],.box 25 [.i .i64,.i .i64,.s (.sl 42 .sp),.s .gr],.box 25 [.i .i64,.i .i64,.s (.sl 42 .sp),.s .gr],.box 25 [.i .i64,.i .i64,.s (.sl 42 .sp),.s .gr],.box 25 [.i .i64,.i .i64,.s (.sl 42 .sp),.s .gr]]⟩:PS).mk' [.i c4,.i c5,.l (.sl 42 .sp) c6,.l .gr c7,.i c8,.i c9,.l (.sl 42 .sp) c10,.l .gr c11,.i c12,.i c13,.l (.sl 42 .sp) c14,.l .gr c15,.i c16,.i c17,.l (.sl 42 .sp) c18,.l .gr c19,.i c20,.i c21,.l (.sl 42 .sp) c22,.l .gr c23,.i c24,.i c25,.l (.sl 42 .sp) c26,.l .gr c27])))
noncomputable def dx.l1.g {γ:Type} (YK:HdK γ) (k:Nat) (K:dQ→St→Option γ):List Lf→Option γ
  | [.l (.int .i64) c1,.i c2,.i v3,.i c4,.i c5,.l (.sl 42 .sp) c6,.l .gr c7,.i c8,.i c9,.l (.sl 42 .sp) c10,.l .gr c11,.i c12,.i c13,.l (.sl 42 .sp) c14,.l .gr c15,.i c16,.i c17,.l (.sl 42 .sp) c18,.l .gr c19,.i c20,.i c21,.l (.sl 42 .sp) c22,.l .gr c23,.i c24,.i c25,.l (.sl 42 .sp) c26,.l .gr c27]=>let q:=dx.l1.c YK K c4 c5 c6 c7 c8 c9 c10 c11 c12 c13 c14 c15 c16 c17 c18 c19 c20 c21 c22 c23 c24 c25 c26 c27;dx.l1 q.1 q.2 c1 c2 c8 c9 c10 c11 c12 c13 c14 c15 c16 c17 c18 c19 c20 c21 c22 c23 c24 c25 c26 c27 k v3
  | _=>none
noncomputable def dx.C {γ:Type}:Ctx γ:=mkC (fun k=>mkE [(8,dz.m k),(9,eZ.m k),(11,dD.m k),(12,dO.m k),(13,dK.m k),(19,fM.m k),(20,fu.m k),(21,cO.m k),(23,dX.m k),(24,eU.m k),(25,dV.m k),(26,iZ.m k)] []) [(7,Tryz.f7)] [(7,mkA [101] [(0,[11,13,15,17,19,21,95,96,97]),(2,[11,13,15,17,19,107,108,109])] [(0,[11,13,15,17,19,21]),(2,[10,15,17,19])] [])] [⟨0,7,0,iC [(dx.l0.p,dx.l0.g)]⟩,⟨0,7,2,iC [(dx.l1.p,dx.l1.g)]⟩] []
theorem dx.l0.eq {γ:Type} (YK:HdK γ) (rl:Option Nat) (K:dQ→St→Option γ) (c2:List P.S44) (c3:Int) (c5:Int) (c6:Int) (c7:List (List P.S42)) (c8:List P.S44) (c9:Int) (c10:Int) (c11:List (List P.S42)) (c12:List P.S44) (c13:Int) (c14:Int) (c15:List (List P.S42)) (c16:List P.S44) (c17:Int) (c18:Int) (c19:List (List P.S42)) (c20:List P.S44) (c21:Int) (c22:Int) (c23:List (List P.S42)) (c24:List P.S44) (c25:Int) (c26:Int) (c27:List (List P.S42)) (c28:List P.S44):∀ k:Nat,(fun (v1:List Int) (v4:Int)=>dx.C.lK 0 7 0 Tryz.f7 YK rl 6 k (dx.l0.p.mk' [.l (.int .i64) v1,.l .gr c2,.i c3,.i v4,.i c5,.i c6,.l (.sl 42 .sp) c7,.l .gr c8,.i c9,.i c10,.l (.sl 42 .sp) c11,.l .gr c12,.i c13,.i c14,.l (.sl 42 .sp) c15,.l .gr c16,.i c17,.i c18,.l (.sl 42 .sp) c19,.l .gr c20,.i c21,.i c22,.l (.sl 42 .sp) c23,.l .gr c24,.i c25,.i c26,.l (.sl 42 .sp) c27,.l .gr c28]) K)=(fun (v1:List Int) (v4:Int)=>dx.l0.g YK k K [.l (.int .i64) v1,.l .gr c2,.i c3,.i v4,.i c5,.i c6,.l (.sl 42 .sp) c7,.l .gr c8,.i c9,.i c10,.l (.sl 42 .sp) c11,.l .gr c12,.i c13,.i c14,.l (.sl 42 .sp) c15,.l .gr c16,.i c17,.i c18,.l (.sl 42 .sp) c19,.l .gr c20,.i c21,.i c22,.l (.sl 42 .sp) c23,.l .gr c24,.i c25,.i c26,.l (.sl 42 .sp) c27,.l .gr c28]):=fF (fun R k v1 v4=>dx.l0T (dx.l0.c YK K c5 c6 c7 c8 c9 c10 c11 c12 c13 c14 c15 c16 c17 c18 c19 c20 c21 c22 c23 c24 c25 c26 c27 c28) c2 c3 R k v1 v4) (by kernel_rfl) (fun k=>by kernel_rfl) (fun k=>by kernel_rfl)
theorem dx.l1.eq {γ:Type} (YK:HdK γ) (rl:Option Nat) (K:dQ→St→Option γ) (c1:List Int) (c2:Int) (c4:Int) (c5:Int) (c6:List (List P.S42)) (c7:List P.S44) (c8:Int) (c9:Int) (c10:List (List P.S42)) (c11:List P.S44) (c12:Int) (c13:Int) (c14:List (List P.S42)) (c15:List P.S44) (c16:Int) (c17:Int) (c18:List (List P.S42)) (c19:List P.S44) (c20:Int) (c21:Int) (c22:List (List P.S42)) (c23:List P.S44) (c24:Int) (c25:Int) (c26:List (List P.S42)) (c27:List P.S44):∀ k:Nat,(fun (v3:Int)=>dx.C.lK 0 7 2 Tryz.f7 YK rl 6 k (dx.l1.p.mk' [.l (.int .i64) c1,.i c2,.i v3,.i c4,.i c5,.l (.sl 42 .sp) c6,.l .gr c7,.i c8,.i c9,.l (.sl 42 .sp) c10,.l .gr c11,.i c12,.i c13,.l (.sl 42 .sp) c14,.l .gr c15,.i c16,.i c17,.l (.sl 42 .sp) c18,.l .gr c19,.i c20,.i c21,.l (.sl 42 .sp) c22,.l .gr c23,.i c24,.i c25,.l (.sl 42 .sp) c26,.l .gr c27]) K)=(fun (v3:Int)=>dx.l1.g YK k K [.l (.int .i64) c1,.i c2,.i v3,.i c4,.i c5,.l (.sl 42 .sp) c6,.l .gr c7,.i c8,.i c9,.l (.sl 42 .sp) c10,.l .gr c11,.i c12,.i c13,.l (.sl 42 .sp) c14,.l .gr c15,.i c16,.i c17,.l (.sl 42 .sp) c18,.l .gr c19,.i c20,.i c21,.l (.sl 42 .sp) c22,.l .gr c23,.i c24,.i c25,.l (.sl 42 .sp) c26,.l .gr c27]):=fF (fun R k v3=>dx.l1T (dx.l1.c YK K c4 c5 c6 c7 c8 c9 c10 c11 c12 c13 c14 c15 c16 c17 c18 c19 c20 c21 c22 c23 c24 c25 c26 c27).1 (dx.l1.c YK K c4 c5 c6 c7 c8 c9 c10 c11 c12 c13 c14 c15 c16 c17 c18 c19 c20 c21 c22 c23 c24 c25 c26 c27).2 c1 c2 c8 c9 c10 c11 c12 c13 c14 c15 c16 c17 c18 c19 c20 c21 c22 c23 c24 c25 c26 c27 R k v3) (by kernel_rfl) (fun k=>by kernel_rfl) (fun k=>by kernel_rfl)
theorem dx.fH {γ:Type}:(dx.C (γ:=γ)).Ok:=⟨(all_cons (fun k=>by kernel_rfl) all_nil),(all_cons (by kernel_rfl) all_nil),all_nil⟩
theorem dx.e0 {γ:Type}:iq (dx.C (γ:=γ)) ⟨0,7,0,iC [(dx.l0.p,dx.l0.g)]⟩:=dx.fH.kg Tryz.f7 [] (by kernel_rfl) (by kernel_rfl) (by kernel_rfl) (all_cons iJ (all_cons iJ all_nil)) (all_cons (fun YK rl k ls K v hv=>(show dx.l0.g YK k K ls=some v→_ from fun hv=>by
  unfold dx.l0.g at hv;split at hv
  · exact (congrFun (congrFun (dx.l0.eq YK rl K _ _ _ _ _ _ _ _ _ _ _ _ _ _ _ _ _ _ _ _ _ _ _ _ _ _ k) _) _).trans hv
  · cases hv) hv) all_nil)
theorem dx.e1 {γ:Type}:iq (dx.C (γ:=γ)) ⟨0,7,2,iC [(dx.l1.p,dx.l1.g)]⟩:=dx.fH.kg Tryz.f7 [] (by kernel_rfl) (by kernel_rfl) (by kernel_rfl) (all_cons iJ (all_cons iJ all_nil)) (all_cons (fun YK rl k ls K v hv=>(show dx.l1.g YK k K ls=some v→_ from fun hv=>by
  unfold dx.l1.g at hv;split at hv
  · exact (congrFun (dx.l1.eq YK rl K _ _ _ _ _ _ _ _ _ _ _ _ _ _ _ _ _ _ _ _ _ _ _ _ _ _ k) _).trans hv
  · cases hv) hv) all_nil)
theorem dx.ok (k:Nat):jk Tryz.prog 7 (dx.m k).s:=okW dx.fH 0 Tryz.f7 k all_nil (fun k=>all_cons (dz.ok k) (all_cons (eZ.ok k) (all_cons (dD.ok k) (all_cons (dO.ok k) (all_cons (dK.ok k) (all_cons (fM.ok k) (all_cons (fu.ok k) (all_cons (cO.ok k) (all_cons (dX.ok k) (all_cons (eU.ok k) (all_cons (dV.ok k) (all_cons (iZ.ok k) (all_nil))))))))))))) (all_cons ⟨Tryz.func7,by kernel_rfl⟩ all_nil) (all_cons dx.e0 (all_cons dx.e1 all_nil)) (by kernel_rfl) (by kernel_rfl) (fun a=>by kernel_rfl)
end Go.Proofs.YtcomnjodjijcmaaGreat.R
namespace Go.Proofs.YtcomnjodjijcmaaGreat.M
noncomputable section
set_option linter.unusedVariables false
set_option linter.unusedSimpArgs false
open Go.RowKit Go.Proofs.YtcomnjodjijcmaaGreatW.dB Go.Proofs.YtcomnjodjijcmaaGreatW.d9
def gh0 (W:World):Gh:={ ow:=fun _=>none,pr:=fun b _=>b<W.heap.size,bx:=fun _=>0,lr:=fun _=>default,lv:=fun _=>False,av:=fun _=>undef }
theorem cp0 {W:World} {a:Addr} {v:Value} (h:W.cell? a=some v):kR (gh0 W) W a v:=⟨h,by
  show a.block<W.heap.size;unfold World.cell? at h;cases hb:W.heap[a.block]? with
  | none=>rw [hb] at h;cases h
  | some _=>exact (Array.getElem?_eq_some_iff.1 hb).1⟩
theorem row0 {α:Type} {R R':α→List Value→Prop} {sz n:Nat} (hz:0<sz) {W:World} (hR:∀ x cs,R x cs→R' x cs) {A:Option Addr} {xs:List α} (h:kS R sz W A n xs):acC R' sz (kR (gh0 W) W) A xs:=fun i x hx=>by
  obtain ⟨hl,_,h⟩:=h;have hi:0<n:=by have:=(List.getElem?_eq_some_iff.1 hx).1;omega
  obtain ⟨ad,rfl,h2⟩:=h hi;obtain ⟨c,hc,hr,hcell⟩:=h2 i x hx;have hs:ad.spot=none:=by
    obtain ⟨c0,hc0,_,hcell0⟩:=h2 0 _ (List.getElem?_eq_getElem (by omega));have:=hcell0 0 (c0[0]'(by omega)) (by simp);rw [Nat.zero_mul] at this;exact qG this
  obtain ⟨b,o,s⟩:=ad;obtain rfl:s=none:=hs;refine ⟨b,o,c,rfl,hR _ _ hr,hc,fun j v hv => ?_⟩;have:=hcell j v hv;rw [Addr.add_mid] at this;exact cp0 this
theorem sl0 {α:Type} {R R':α→List Value→Prop} {sz c:Nat} (hz:0<sz) {W:World} (hR:∀ x cs,R x cs→R' x cs) {A:Option Addr} {xs:List α} (hc:xs.length≤c) (h:kS R sz W A xs.length xs):SlR R' sz (kR (gh0 W) W) xs (.slice A xs.length c):=⟨A,c,rfl,hc,row0 hz hR h⟩
theorem fm0 {W:World} (p c:Int) {A2:Option Addr} {c2:Nat} {core:List (List P.S42)} {A3:Option Addr} {c3:Nat} {odd:List P.S44} (h2:Kd.C (Kd.slice 42 P.k42) W A2 core.length core) (l2:core.length≤c2) (h3:Kd.C P.k44 W A3 odd.length odd) (l3:odd.length≤c3) :
    Ty.fm.R (kR (gh0 W) W) ⟨p,c,core,odd⟩ [.int .i64 p,.int .i64 c,.slice A2 core.length c2,.slice A3 odd.length c3] :=
  ⟨_,_,rfl,sl0 (by decide) (fun x cs h=>by
    obtain ⟨A,k,rfl,hl,hk⟩:=h;exact ⟨_,rfl,sl0 (by decide) (fun x cs h=>P.yw h) hl hk⟩) l2 h2,sl0 (by decide) (fun x cs h=>by
    obtain ⟨A,k,rfl,hl,hk⟩:=P.acN h;exact ⟨_,rfl,sl0 (by decide) (fun x cs h=>P.yw h) hl hk⟩) l3 h3⟩
def afe (W:World):(ts:List Ty)→nE ts→List Value→Prop
  | [],_,[]=>True
  | t :: ts,a,v :: vs=>(∃ ws,t.R (kR (gh0 W) W) a.1 ws∧VW t ws v)∧afe W ts a.2 vs
  | _,_,_=>False
theorem agp {W:World}:∀ {ts:List Ty} {a:nE ts} {vs:List Value},afe W ts a vs→(j4 ts a).length=vs.length∧∀ (i:Nat) (x:AV) (v:Value),(j4 ts a)[i]? = some x→vs[i]? = some v→∀ fr' i',AVR 0 (gh0 W) W fr' i' x v
  | [],_,[],_=>⟨rfl,fun i x v hx=>by simp [j4] at hx⟩
  | [],_,_ :: _,h=>h.elim
  | _ :: _,_,[],h=>h.elim
  | t :: ts,a,v :: vs,⟨⟨ws,h1,h2⟩,h3⟩=>by
    obtain ⟨q1,q2⟩:=agp h3;refine ⟨by simp [j4,q1],fun i x u hx hu fr' i' => ?_⟩;cases i with
    | zero =>
      simp [j4] at hx hu
      subst hx;subst hu;exact ae1 _ t a.1 h1 h2
    | succ i=>exact q2 i x u (by simpa [j4] using hx) (by simpa using hu) fr' i'
theorem Ty.of_cells:(t:Ty)→(x:t.T)→t.of (t.cells x)=some x
  | .int k,x=>by simp [Ty.of,Ty.cells]
  | .bool,x=>rfl
  | .str,x=>rfl
  | .sp,x=>rfl
  | .gr,x=>by simp [Ty.of,Ty.cells,Cell.asL]
  | .fm,x=>by simp [Ty.of,Ty.cells,Cell.asL]
  | .ff,x=>rfl
  | .pr,x=>by simp [Ty.of,Ty.cells,Cell.asL]
  | .sl _ t,x=>by simp [Ty.of,Ty.cells,Cell.asL]
theorem agq (t:Ty) (x:t.T):rdP t (mkP t x)=some x:=by
  have h:=Ty.of_cells t x;cases t <;> simpa [mkP,rdP,Ty.cells,Ty.ag] using h
theorem wJ:(ts:List Ty)→(a:nE ts)→nM ts (j4 ts a)=some a
  | [],_=>rfl
  | t :: ts,a=>by
    simp only [j4,nM,agq,wJ ts a.2];rfl
theorem abO {P:Program} {f:FuncId} {ts:List Ty} {F:nE ts→Option Bool} (h:jk P f (jm ts [.pl .bool] F).s) {W:World} {a:nE ts} {vs:List Value} (hR:afe W ts a vs) (hF:F a=some true) :
    Calls P f vs.toArray W fun e W'=>e=.returned (.bool true)∧Below W.heap.size W W':=by
  obtain ⟨fn,_,_,_,h⟩:=h;obtain ⟨q1,q2⟩:=agp hR;have hs:(jm ts [.pl .bool] F).s (j4 ts a)=some (aat [.pl .bool] true):=by
    show ((nM ts (j4 ts a)).map F).bind _=_;rw [wJ];show (F a).map _=_;rw [hF];rfl
  refine (h 0 (gh0 W) W 0 0 _ _ _ ⟨fun b o hb=>hb,fun b ℓ hl=>by cases hl⟩ (by simpa using q1) (fun i x v hx hv=>q2 i x v hx (by simpa using hv)) hs).mono ?_;rintro e W' ⟨v,rfl,g',_,_,hE,hv⟩;refine ⟨?_,⟨hE.os,hE.tape,hE.output,hE.size,fun b hb=>(hE.far b hb (fun ℓ hl=>by cases hl)).1⟩⟩;have hv:v=.bool true∧_:=hv;rw [hv.1]
end
end Go.Proofs.YtcomnjodjijcmaaGreat.M
namespace Go.Proofs.YtcomnjodjijcmaaGreat.P
set_option linter.unusedVariables false
set_option linter.unusedSimpArgs false
open Go.RowKit
def SL (lo hi:Int):List Sp→Prop
  | []=>True
  | s :: r=>lo≤s.f0∧s.f0≤s.f1∧s.f1≤hi∧SL (s.f1+2) hi r
def l8 (l:List Sp) (x:Int):Bool:=l.any fun s=>decide (s.f0≤x)&&decide (x≤s.f1)
theorem kF (x:Int):l8 [] x=false:=rfl
theorem jy (s:Sp) (r:List Sp) (x:Int):l8 (s :: r) x=((decide (s.f0≤x)&&decide (x≤s.f1)) || l8 r x):=rfl
theorem wK {l:List Sp} {x:Int}:l8 l x=true↔∃ s∈l,s.f0≤x∧x≤s.f1:=by simp [l8]
theorem SL.mono {lo lo' hi:Int} (h:lo'≤lo):∀ {l:List Sp},SL lo hi l→SL lo' hi l
  | [],_=>trivial
  | _ :: _,hs=>⟨by have:=hs.1;omega,hs.2⟩
theorem SL.low {lo hi:Int} {l:List Sp} (hs:SL lo hi l) {x:Int} (hx:x<lo):l8 l x=false:=by
  induction l generalizing lo with
  | nil=>rfl
  | cons s r ih =>
    obtain ⟨h1,h2,h3,h4⟩:=hs;rw [jy,ih h4 (by omega)];have:¬ s.f0≤x:=by omega
    simp [this]
theorem SL.high {lo hi:Int} {l:List Sp} (hs:SL lo hi l) {x:Int} (hx:hi<x):l8 l x=false:=by
  induction l generalizing lo with
  | nil=>rfl
  | cons s r ih =>
    obtain ⟨h1,h2,h3,h4⟩:=hs;rw [jy,ih h4];have:¬ x≤s.f1:=by omega
    simp [this]
theorem SL.ticks {lo hi:Int} {l:List Sp} (hs:SL lo hi l) {s:Sp} (h:s∈l):lo≤s.f0∧s.f0≤s.f1∧s.f1≤hi:=by
  induction l generalizing lo with
  | nil=>simp at h
  | cons t r ih =>
    obtain ⟨h1,h2,h3,h4⟩:=hs;rcases List.mem_cons.1 h with rfl | h
    · exact ⟨h1,h2,h3⟩
    · obtain ⟨a,b,c⟩:=ih h4 h
      exact ⟨by omega,b,c⟩
theorem SL.uniq {hi hi':Int}:∀ {l m:List Sp} {lo lo':Int},SL lo hi l→SL lo' hi' m→(∀ x,l8 l x=l8 m x)→l=m
  | [],[],_,_,_,_,_=>rfl
  | [],t :: r,_,_,_,hm,h=>by
    have:=h t.f0;rw [jy] at this;have h2:=hm.2.1;simp [kF,h2] at this
  | s :: r,[],_,_,hl,_,h=>by
    have:=h s.f0;rw [jy] at this;have h2:=hl.2.1;simp [kF,h2] at this
  | s :: r,t :: q,lo,lo',hl,hm,h=>by
    obtain ⟨a1,a2,a3,a4⟩:=hl;obtain ⟨b1,b2,b3,b4⟩:=hm;have key:∀ {s t:Sp} {r q:List Sp} {hi hi':Int},s.f0≤s.f1→t.f0≤t.f1→SL (s.f1+2) hi r→SL (t.f1+2) hi' q→(∀ x,l8 (s :: r) x=l8 (t :: q) x)→t.f0≤s.f0:=by
      intro s t r q hi hi' a2 b2 a4 b4 h;by_cases hlt:t.f0≤s.f0
      · exact hlt
      · have hx:=h s.f0
        rw [jy,jy,b4.low (by omega)] at hx;have:¬ t.f0≤s.f0:=hlt;simp [this,a2] at hx
    have e0:s.f0=t.f0:=by
      have h1:=key a2 b2 a4 b4 h;have h2:=key b2 a2 b4 a4 (fun x=>(h x).symm);omega
    have key2:∀ {s t:Sp} {r q:List Sp} {hi hi':Int},s.f0=t.f0→s.f0≤s.f1→t.f0≤t.f1→SL (s.f1+2) hi r→SL (t.f1+2) hi' q→(∀ x,l8 (s :: r) x=l8 (t :: q) x)→t.f1≤s.f1:=by
      intro s t r q hi hi' e0 a2 b2 a4 b4 h;by_cases hlt:t.f1≤s.f1
      · exact hlt
      · have hx:=h (s.f1+1)
        rw [jy,jy,a4.low (by omega)] at hx;have c1:¬ s.f1+1≤s.f1:=by omega
        have c2:t.f0≤s.f1+1:=by omega
        have c3:s.f1+1≤t.f1:=by omega
        simp [c2,c3] at hx
        omega
    have e1:s.f1=t.f1:=by
      have h1:=key2 e0 a2 b2 a4 b4 h;have h2:=key2 e0.symm b2 a2 b4 a4 (fun x=>(h x).symm);omega
    have est:s=t:=by cases s;cases t;simp only at e0 e1;rw [e0,e1]
    subst est;have:r=q:=SL.uniq a4 b4 (fun x=>by
      have hx:=h x;rw [jy,jy] at hx;by_cases hc:x<s.f1+2
      · rw [a4.low hc,b4.low hc]
      · have:¬ x≤s.f1:=by omega
        simpa [this] using hx)
    rw [this]
def Inv (hi:Int) (a:List Sp) (i:Bool) (p:Int):Prop :=
  match a,i with
  | [],i=>i=false
  | s :: r,true=>s.f0≤p∧p≤s.f1∧s.f1≤hi∧SL (s.f1+2) hi r
  | s :: r,false=>SL (p+1) hi (s :: r)
theorem mJ {n:Int} (h1 : -9223372036854775808≤n) (h2:n≤9223372036854775807):wrap64 n=n:=by unfold wrap64;omega
theorem Inv.nxt {hi p:Int} {a:List Sp} {i:Bool} (h:Inv hi a i p) (hp : -4611686018427387904≤p) (hh:hi≤4611686018427387904) (hn:a≠[]):p<oO a i∧oO a i≤hi+1:=by
  match a,i,hn with
  | s :: r,true,_ =>
    obtain ⟨h1,h2,h3,h4⟩:=h;have hw:wrap64 (s.f1+1)=s.f1+1:=mJ (by omega) (by omega);simp only [oO,hw];omega
  | s :: r,false,_ =>
    obtain ⟨h1,h2,h3,h4⟩:=h;simp only [oO];omega
theorem Inv.step {hi p t:Int} {a:List Sp} {i:Bool} (h:Inv hi a i p) (hp : -4611686018427387904≤p) (hh:hi≤4611686018427387904) (hpt:p<t) (ht:a≠[]→t≤oO a i) :
    Inv hi (jv a i t).1 (jv a i t).2 t∧(∀ x,t≤x→l8 (jv a i t).1 x=l8 a x)∧(∀ x,p≤x→x<t→l8 a x=i):=by
  match a,i with
  | [],i =>
    have:i=false:=h;subst this;exact ⟨rfl,fun _ _=>rfl,fun _ _ _=>rfl⟩
  | s :: r,true =>
    obtain ⟨h1,h2,h3,h4⟩:=h;have hw:wrap64 (s.f1+1)=s.f1+1:=mJ (by omega) (by omega);have ht':=ht (by simp);simp only [oO,hw] at ht';have hin:∀ x,p≤x→x<t→l8 (s :: r) x=true:=fun x a b=>by
      have c1:s.f0≤x:=by omega
      have c2:x≤s.f1:=by omega
      simp [jy,c1,c2]
    simp only [jv,hw];by_cases e:s.f1+1=t
    · rw [if_pos e]
      refine ⟨?_,fun x hx => ?_,hin⟩
      · cases r with
        | nil=>rfl
        | cons u r=>exact SL.mono (by omega) h4
      · have:¬ x≤s.f1:=by omega
        simp [jy,this]
    · rw [if_neg e]
      exact ⟨⟨by omega,by omega,h3,h4⟩,fun _ _=>rfl,hin⟩
  | s :: r,false =>
    obtain ⟨h1,h2,h3,h4⟩:=h;have ht':=ht (by simp);simp only [oO] at ht';have hout:∀ x,p≤x→x<t→l8 (s :: r) x=false:=fun x a b=>by
      have c1:¬ s.f0≤x:=by omega
      rw [jy,h4.low (by omega)];simp [c1]
    simp only [jv];by_cases e:s.f0=t
    · rw [if_pos e]
      exact ⟨⟨by omega,by omega,h3,h4⟩,fun _ _=>rfl,hout⟩
    · rw [if_neg e]
      exact ⟨⟨by omega,h2,h3,h4⟩,fun _ _=>rfl,hout⟩
theorem adw (yes:Bool→Bool→Bool) (xs:List Bd):∀ (i:Bool) (f:Int) (o:List Sp),(xs.foldl (kV yes) ⟨i,f,o⟩).out=o++(xs.foldl (kV yes) ⟨i,f,[]⟩).out:=by
  induction xs with
  | nil=>intro i f o;simp
  | cons x xs ih =>
    intro i f o;simp only [List.foldl_cons,kV];split
    · exact ih _ _ _
    · split
      · rw [ih _ _ (o++_),ih _ _ ([]++_)];simp
      · exact ih _ _ _
theorem ahV (yes:Bool→Bool→Bool) (hy:yes false false=false) (hi aj:Int) (hlo : -4611686018427387904≤aj) (hh:hi≤4611686018427387904) (n:Nat):∀ (a:List Sp) (ia:Bool) (b:List Sp) (ib:Bool) (p from_:Int),
    msr a ia+msr b ib≤n→Inv hi a ia p→Inv hi b ib p→aj≤p+1 → -4611686018427387904≤p→(yes ia ib=true→aj≤from_∧from_≤p) →
    SL (if yes ia ib then from_ else p+1) hi ((qd a ia b ib).foldl (kV yes) ⟨yes ia ib,from_,[]⟩).out ∧
    ∀ x,l8 ((qd a ia b ib).foldl (kV yes) ⟨yes ia ib,from_,[]⟩).out x=if x<p then (yes ia ib&&decide (from_≤x)) else yes (l8 a x) (l8 b x):=by
  induction n with
  | zero =>
    intro a ia b ib p from_ hm ha hb hp hp2 hf;have e:a=[]∧b=[]:=by
      by_cases e:a=[]∧b=[]
      · exact e
      · have:=qE a ia b ib e;omega
    obtain ⟨rfl,rfl⟩:=e;have h1:ia=false:=ha;have h2:ib=false:=hb;subst h1 h2;rw [nY,hy];refine ⟨trivial,fun x => ?_⟩;simp [kF,hy]
  | succ n ih =>
    intro a ia b ib p from_ hm ha hb hp hp2 hf;by_cases e:a=[]∧b=[]
    · obtain ⟨rfl,rfl⟩:=e
      have h1:ia=false:=ha;have h2:ib=false:=hb;subst h1 h2;rw [nY,hy];refine ⟨trivial,fun x => ?_⟩;simp [kF,hy]
    · have hlt:=qE a ia b ib e
      rw [sw a ia b ib e];have ht:p<atL a ia b ib∧atL a ia b ib≤hi+1∧(a≠[]→atL a ia b ib≤oO a ia)∧(b≠[]→atL a ia b ib≤oO b ib):=by
        unfold atL;by_cases h1:a=[]
        · have h2:b≠[]:=fun h=>e ⟨h1,h⟩
          rw [if_pos h1];have:=hb.nxt hp2 hh h2;exact ⟨this.1,this.2,fun h=>absurd h1 h,fun _=>Int.le_refl _⟩
        · rw [if_neg h1]
          have q1:=ha.nxt hp2 hh h1;by_cases h2:b=[]
          · rw [if_pos h2]
            exact ⟨q1.1,q1.2,fun _=>Int.le_refl _,fun h=>absurd h2 h⟩
          · rw [if_neg h2]
            have q2:=hb.nxt hp2 hh h2;exact ⟨by omega,by omega,fun _=>by omega,fun _=>by omega⟩
      obtain ⟨t,hte⟩:∃ t,atL a ia b ib=t:=⟨_,rfl⟩;rw [hte] at ht hlt ⊢;obtain ⟨ht1,ht2,ht3,am⟩:=ht;obtain ⟨ah,ha2,ao⟩:=ha.step hp2 hh ht1 ht3;obtain ⟨ai,hb2,hb3⟩:=hb.step hp2 hh ht1 am;obtain ⟨a1,aa,hpa⟩:∃ a1 aa,jv a ia t=(a1,aa):=⟨_,_,rfl⟩;obtain ⟨b1,ab,hpb⟩:∃ b1 ab,jv b ib t=(b1,ab):=⟨_,_,rfl⟩;rw [hpa] at hlt ah ha2 ⊢;rw [hpb] at hlt ai hb2 ⊢;dsimp only at hlt ah ha2 ai hb2 ⊢;have hw:wrap64 (t - 1)=t - 1:=mJ (by omega) (by omega);have hval:∀ x,p≤x→x<t→yes (l8 a x) (l8 b x)=yes ia ib:=fun x h1 h2=>by rw [ao x h1 h2,hb3 x h1 h2]
      have af:∀ x,t≤x→yes (l8 a1 x) (l8 b1 x)=yes (l8 a x) (l8 b x):=fun x h1=>by rw [ha2 x h1,hb2 x h1]
      simp only [List.foldl_cons];cases hin:yes ia ib with
      | false =>
        cases ac:yes aa ab with
        | true =>
          have hk:kV yes ⟨false,from_,[]⟩ ⟨t,aa,ab⟩=⟨yes aa ab,t,[]⟩:=by simp [kV,ac]
          rw [hk];obtain ⟨s1,s2⟩:=ih a1 aa b1 ab t t (by omega) ah ai (by omega) (by omega) (fun _=>⟨by omega,Int.le_refl _⟩);rw [ac] at s1 s2 ⊢;refine ⟨by simpa using SL.mono (by simp;omega) s1,fun x => ?_⟩;rw [s2 x];by_cases c1:x<p
          · have c2:x<t:=by omega
            have c3:¬ t≤x:=by omega
            simp [c1,c2,c3]
          · by_cases c2:x<t
            · have c3:¬ t≤x:=by omega
              rw [if_neg c1,hval x (by omega) c2,hin];simp [c2,c3]
            · rw [if_neg c1,if_neg c2,af x (by omega)]
        | false =>
          have hk:kV yes ⟨false,from_,[]⟩ ⟨t,aa,ab⟩=⟨yes aa ab,from_,[]⟩:=by simp [kV,ac]
          rw [hk];obtain ⟨s1,s2⟩:=ih a1 aa b1 ab t from_ (by omega) ah ai (by omega) (by omega) (fun h=>by rw [ac] at h;cases h);rw [ac] at s1 s2 ⊢;refine ⟨by simpa using SL.mono (by simp;omega) s1,fun x => ?_⟩;rw [s2 x];by_cases c1:x<p
          · have c2:x<t:=by omega
            simp [c1,c2]
          · by_cases c2:x<t
            · rw [if_neg c1,hval x (by omega) c2,hin]
              simp [c2]
            · rw [if_neg c1,if_neg c2,af x (by omega)]
      | true =>
        obtain ⟨hf1,hf2⟩:=hf hin;cases ac:yes aa ab with
        | true =>
          have hk:kV yes ⟨true,from_,[]⟩ ⟨t,aa,ab⟩=⟨yes aa ab,from_,[]⟩:=by simp [kV,ac]
          rw [hk];obtain ⟨s1,s2⟩:=ih a1 aa b1 ab t from_ (by omega) ah ai (by omega) (by omega) (fun _=>⟨hf1,by omega⟩);rw [ac] at s1 s2 ⊢;refine ⟨by simpa using s1,fun x => ?_⟩;rw [s2 x];by_cases c1:x<p
          · have c2:x<t:=by omega
            simp [c1,c2]
          · by_cases c2:x<t
            · have c3:from_≤x:=by omega
              rw [if_neg c1,hval x (by omega) c2,hin];simp [c2,c3]
            · rw [if_neg c1,if_neg c2,af x (by omega)]
        | false =>
          have hk:kV yes ⟨true,from_,[]⟩ ⟨t,aa,ab⟩=⟨yes aa ab,from_,[⟨from_,t - 1⟩]⟩:=by simp [kV,ac,hw]
          rw [hk,adw];obtain ⟨s1,s2⟩:=ih a1 aa b1 ab t from_ (by omega) ah ai (by omega) (by omega) (fun h=>by rw [ac] at h;cases h);rw [ac] at s1 s2 ⊢;refine ⟨⟨by simp,by show from_≤t - 1;omega,by show t - 1≤hi;omega,?_⟩,fun x => ?_⟩
          · have:(t - 1:Int)+2=t+1:=by omega
            show SL (t - 1+2) hi _;rw [this];simpa using s1
          · have ak:l8 ([⟨from_,t - 1⟩]++(List.foldl (kV yes) ⟨false,from_,[]⟩ (qd a1 aa b1 ab)).out) x=((decide (from_≤x)&&decide (x≤t - 1)) || l8 (List.foldl (kV yes) ⟨false,from_,[]⟩ (qd a1 aa b1 ab)).out x):=rfl
            rw [ak,s2 x];by_cases c1:x<p
            · have c2:x<t:=by omega
              have c3:x≤t - 1:=by omega
              simp [c1,c2,c3]
            · by_cases c2:x<t
              · have c3:from_≤x:=by omega
                have c4:x≤t - 1:=by omega
                rw [if_neg c1,hval x (by omega) c2,hin];simp [c2,c3,c4]
              · have c4:¬ x≤t - 1:=by omega
                rw [if_neg c1,if_neg c2,af x (by omega)];simp [c4]
theorem pE (yes:Bool→Bool→Bool) (hy:yes false false=false) {lo hi:Int} (hlo : -4611686018427387903≤lo) (hh:hi≤4611686018427387904) {a b:List Sp} (ha:SL lo hi a) (hb:SL lo hi b) :
    SL lo hi (qF yes a b)∧∀ x,l8 (qF yes a b) x=yes (l8 a x) (l8 b x):=by
  have inv:∀ {a:List Sp},SL lo hi a→Inv hi a false (lo - 1):=by
    intro a h;cases a with
    | nil=>rfl
    | cons s r=>exact SL.mono (by omega) h
  obtain ⟨h1,h2⟩:=ahV yes hy hi lo (by omega) hh _ a false b false (lo - 1) 0 (Nat.le_refl _) (inv ha) (inv hb) (by omega) (by omega) (fun h=>by rw [hy] at h;cases h);rw [hy] at h1 h2;refine ⟨by simpa [qF,aez] using SL.mono (by simp) h1,fun x => ?_⟩;have:=h2 x;unfold qF aez;rw [this];by_cases c:x<lo - 1
  · rw [if_pos c,ha.low (by omega),hb.low (by omega),hy];simp
  · rw [if_neg c]
def ins:List Int→Int→List Int
  | [],x=>[x]
  | y :: r,x=>if y=x then y :: r else if y>x then x :: y :: r else y :: ins r x
end Go.Proofs.YtcomnjodjijcmaaGreat.P
namespace Go.Proofs.YtcomnjodjijcmaaGreat.P
set_option linter.unusedVariables false
set_option linter.unusedSimpArgs false
open Go.RowKit Go.ChangeShapes Go.WideShapes Go.Deep Go.Proofs.YtcomnjodjijcmaaGreatW.dB
def fits (n:Int):Prop:=(Lit.int .i64 n).wf=true
def rF (s:Sp):Prop:=fits s.f0∧fits s.f1
end Go.Proofs.YtcomnjodjijcmaaGreat.P
namespace Go.Proofs.YtcomnjodjijcmaaGreat.P
set_option linter.unusedVariables false
set_option linter.unusedSimpArgs false
open Go.RowKit Go.ChangeShapes Go.WideShapes Go.Deep Go.Proofs.YtcomnjodjijcmaaGreatW.dB Go.Proofs.YtcomnjodjijcmaaGreatW.eO
theorem aaS {cs:List Value} (h:cs.length=2):∃ a b,cs=[a,b]:=by
  match cs,h with
  | [a,b],_=>exact ⟨a,b,rfl⟩
theorem aaT {cs:List Value} (h:cs.length=4):∃ a b c d,cs=[a,b,c,d]:=by
  match cs,h with
  | [a,b,c,d],_=>exact ⟨a,b,c,d,rfl⟩
theorem xS {T:Type} (k:Kd T) {H:Type} {enc:TypeId × Value→H} {w:World} {base:Nat} {held:Bool} {t e:TypeId} {fuel:Nat} {cs:List Value} {x:DataW H × List MemPlace}
    (ht:Tryz.prog.underlying t=some (.slice e)) (hn:Tryz.prog.cellsOf e=k.sz) (Q:T→Prop)
    (op:∀ fuel cs x,DataW.trod enc Tryz.prog w base (fun _=>true) held fuel e cs=some x→∃ v,k.K w v cs∧Q v)
    (h:DataW.trod enc Tryz.prog w base (fun _=>true) held fuel t cs=some x) :
    ∃ (a:Option Addr) (cap:Nat) (l:List T),cs=[.slice a l.length cap]∧l.length≤cap∧Kd.C k w a l.length l∧(∀ s∈l,Q s)∧l.length≤9223372036854775807:=by
  rcases open_slice ht h with ⟨hc,_⟩ | ⟨a,len,cap,m,n,D,Pl,hc,hb,hl,hm,hmm,hx,hi⟩
  · exact ⟨none,0,[],by rw [hc];rfl,Nat.le_refl _,⟨rfl,by simp,fun h=>absurd h (by simp)⟩,by simp,by simp⟩
  · have hlm:len≤m:=by rw [hmm];simpa using hl
    have hk:∀ i,i<len→∃ v cs',k.K w v cs'∧Q v∧∀ j u,cs'[j]? = some u→w.cell? (a.add (i*k.sz+j))=some u:=by
      intro i hi';obtain ⟨cs',h1,h2⟩:=hi i (by omega);rw [hn] at h1;obtain ⟨_,hlen,hcell⟩:=World.cells?_some h1;obtain ⟨v,v1,v2⟩:=op _ _ _ h2;refine ⟨v,cs',v1,v2,fun j u hu => ?_⟩;have hj:j<k.sz:=by rw [← hlen];exact (List.getElem?_eq_some_iff.1 hu).1
      have:=hcell j hj;rw [Deep.add_add] at this;rw [this,hu]
    have hmax:len≤9223372036854775807:=by unfold maxLen at hm;omega
    suffices key:∀ q,q≤len→∃ l:List T,l.length=q∧(∀ j s,l[j]? = some s→∃ cs',k.K w s cs'∧∀ i u,cs'[i]? = some u→w.cell? (a.add (j*k.sz+i))=some u)∧∀ s∈l,Q s by
      obtain ⟨l,rfl,hl2,hfit⟩:=key len (Nat.le_refl _);refine ⟨some a,cap,l,hc,hl,⟨rfl,hmax,fun _=>⟨a,rfl,fun j s hj => ?_⟩⟩,hfit,hmax⟩;obtain ⟨cs',g1,g2⟩:=hl2 j s hj;exact ⟨cs',k.kT g1,g1,g2⟩
    intro q;induction q with
    | zero=>exact fun _=>⟨[],rfl,fun j s h=>by simp at h,by simp⟩
    | succ q ih =>
      intro hk';obtain ⟨l,hl1,hl2,hl3⟩:=ih (by omega);obtain ⟨s,cs',h0,h1,h2⟩:=hk q (by omega);refine ⟨l++[s],by simp [hl1],fun j t hj => ?_,fun t ht => ?_⟩
      · by_cases hjk:j<l.length
        · rw [List.getElem?_append_left hjk] at hj;exact hl2 j t hj
        · rw [List.getElem?_append_right (by omega)] at hj
          have:j - l.length=0:=by
            by_cases e:j - l.length=0
            · exact e
            · rw [List.getElem?_eq_none (by simp;omega)] at hj;cases hj
          rw [this] at hj;simp at hj;subst hj;have:j=q:=by omega
          subst this;exact ⟨cs',h0,h2⟩
      · simp at ht
        rcases ht with ht | rfl
        · exact hl3 t ht
        · exact h1
section
variable {H:Type} {enc:TypeId × Value→H} {w:World} {base:Nat} {held:Bool} {fuel:Nat} {cs:List Value} {x:DataW H × List MemPlace}
theorem mK (h:DataW.trod enc Tryz.prog w base (fun _=>true) held fuel 3 cs=some x):∃ n,cs=[.int .i64 n]∧fits n:=by
  obtain ⟨n,e0,_,w0⟩:=DataW.trod_int Tryz.underlying3 h;exact ⟨n,e0,w0⟩
theorem aff (h:DataW.trod enc Tryz.prog w base (fun _=>true) held fuel 42 cs=some x):∃ s:Sp,k42.K w s cs∧rF s:=by
  obtain ⟨xs,n,_,_,hl,hxs,hf⟩:=DataW.trod_struct Tryz.underlying42 h;have e9:Tryz.prog.cellsOf 42=2:=by kernel_rfl
  rw [e9] at hl;have hl2:cs.length=2:=hl;clear hl e9;obtain ⟨v0,v1,rfl⟩:=aaS hl2;have g0:DataW.trod enc Tryz.prog w base (fun _=>true) held n 3 (List.take (Tryz.prog.cellsOf 3) (List.drop 0 [v0,v1]))=xs[0]? := hf 0 _ rfl;rw [show Tryz.prog.cellsOf 3=1 by kernel_rfl] at g0;have g1:DataW.trod enc Tryz.prog w base (fun _=>true) held n 3 (List.take (Tryz.prog.cellsOf 3) (List.drop 1 [v0,v1]))=xs[1]? := hf 1 _ rfl;rw [show Tryz.prog.cellsOf 3=1 by kernel_rfl] at g1;cases hx0:xs[0]? with
  | none=>have:=List.getElem?_eq_none_iff.1 hx0;rw [hxs] at this;exact absurd this (by decide)
  | some y0 =>
    cases hx1:xs[1]? with
    | none=>have:=List.getElem?_eq_none_iff.1 hx1;rw [hxs] at this;exact absurd this (by decide)
    | some y1 =>
      rw [hx0] at g0;rw [hx1] at g1;obtain ⟨a,ea,wa⟩:=mK g0;obtain ⟨b,eb,wb⟩:=mK g1;have aa:[v0]=[.int .i64 a]:=ea;have eb':[v1]=[.int .i64 b]:=eb;injection aa with aa
      injection eb' with eb'
      subst aa eb';exact ⟨⟨a,b⟩,afR w ⟨a,b⟩,wa,wb⟩
theorem zl (h:DataW.trod enc Tryz.prog w base (fun _=>true) held fuel 37 cs=some x):∃ (a:Option Addr) (cap:Nat) (l:List Sp),cs=[.slice a l.length cap]∧l.length≤cap∧Kd.C k42 w a l.length l∧(∀ s∈l,rF s)∧l.length≤9223372036854775807 :=
  xS k42 Tryz.underlying37 (by kernel_rfl) rF (fun _ _ _ g=>aff g) h
theorem abP (h:DataW.trod enc Tryz.prog w base (fun _=>true) held fuel 37 cs=some x):∃ l:List Sp,(Kd.slice 42 k42).K w l cs∧((∀ s∈l,rF s)∧l.length≤9223372036854775807):=by
  obtain ⟨a,cap,l,rfl,h1,h2,h3,h4⟩:=zl h;exact ⟨l,⟨a,cap,rfl,h1,h2⟩,h3,h4⟩
theorem abQ (h:DataW.trod enc Tryz.prog w base (fun _=>true) held fuel 22 cs=some x):∃ (a:Option Addr) (cap:Nat) (l:List (List Sp)),cs=[.slice a l.length cap]∧l.length≤cap∧Kd.C (Kd.slice 42 k42) w a l.length l∧(∀ s∈l,(∀ z∈s,rF z)∧s.length≤9223372036854775807)∧l.length≤9223372036854775807 :=
  xS (Kd.slice 42 k42) Tryz.underlying22 (by kernel_rfl) _ (fun _ _ _ g=>abP g) h
def zm (g:S44):Prop:=fits g.f0∧(∀ z∈g.f1,rF z)∧g.f1.length≤9223372036854775807
theorem afg (h:DataW.trod enc Tryz.prog w base (fun _=>true) held fuel 44 cs=some x):∃ g:S44,k44.K w g cs∧zm g:=by
  obtain ⟨xs,n,_,_,hl,hxs,hf⟩:=DataW.trod_struct Tryz.underlying44 h;have e9:Tryz.prog.cellsOf 44=2:=by kernel_rfl
  rw [e9] at hl;have hl2:cs.length=2:=hl;clear hl e9;obtain ⟨v0,v1,rfl⟩:=aaS hl2;have g0:DataW.trod enc Tryz.prog w base (fun _=>true) held n 3 (List.take (Tryz.prog.cellsOf 3) (List.drop 0 [v0,v1]))=xs[0]? := hf 0 _ rfl;rw [show Tryz.prog.cellsOf 3=1 by kernel_rfl] at g0;have g1:DataW.trod enc Tryz.prog w base (fun _=>true) held n 37 (List.take (Tryz.prog.cellsOf 37) (List.drop 1 [v0,v1]))=xs[1]? := hf 1 _ rfl;rw [show Tryz.prog.cellsOf 37=1 by kernel_rfl] at g1;cases hx0:xs[0]? with
  | none=>have:=List.getElem?_eq_none_iff.1 hx0;rw [hxs] at this;exact absurd this (by decide)
  | some y0 =>
    cases hx1:xs[1]? with
    | none=>have:=List.getElem?_eq_none_iff.1 hx1;rw [hxs] at this;exact absurd this (by decide)
    | some y1 =>
      rw [hx0] at g0;rw [hx1] at g1;obtain ⟨a,ea,wa⟩:=mK g0;obtain ⟨b,cap,l,eb,l1,l2,l3,l4⟩:=zl g1;have aa:[v0]=[.int .i64 a]:=ea;have eb':[v1]=[.slice b l.length cap]:=eb;injection aa with aa
      injection eb' with eb'
      subst aa eb';exact ⟨⟨a,l⟩,afS w ⟨a,l⟩ l1 l2,wa,l3,l4⟩
theorem adx (h:DataW.trod enc Tryz.prog w base (fun _=>true) held fuel 23 cs=some x):∃ (a:Option Addr) (cap:Nat) (l:List S44),cs=[.slice a l.length cap]∧l.length≤cap∧Kd.C k44 w a l.length l∧(∀ s∈l,zm s)∧l.length≤9223372036854775807 :=
  xS k44 Tryz.underlying23 (by kernel_rfl) zm (fun _ _ _ g=>afg g) h
structure ady (p c:Int) (core:List (List Sp)) (odd:List S44):Prop where
  fp:fits p
  fc:fits c
  ahW:∀ l∈core,(∀ z∈l,rF z)∧l.length≤9223372036854775807
  aiW:∀ g∈odd,zm g
  lc:core.length≤9223372036854775807
  lo:odd.length≤9223372036854775807
set_option maxRecDepth 200000 in
theorem abR {b0:Nat} {v:Value} {d:DataW H} {ps:List MemPlace} (hv:Value.okWide Tryz.prog w .any b0 25 v) (h:DataW.Trod enc Tryz.prog w base (fun _=>true) held 25 v d ps) :
    ∃ (p c:Int) (A2:Option Addr) (c2:Nat) (core:List (List Sp)) (A3:Option Addr) (c3:Nat) (odd:List S44),v=.agg #[.int .i64 p,.int .i64 c,.slice A2 core.length c2,.slice A3 odd.length c3] ∧
      Kd.C (Kd.slice 42 k42) w A2 core.length core∧core.length≤c2∧Kd.C k44 w A3 odd.length odd∧odd.length≤c3∧ady p c core odd:=by
  have hq:=okWide_struct (P:=Tryz.prog) (w:=w) (r:=.any) (base:=b0) (t:=25) (v:=v) Tryz.underlying25;have hq2:=hq hv;obtain ⟨cs,rfl,hsz⟩:=hq2;obtain ⟨fuel,h⟩:=h;obtain ⟨xs,n,_,_,hl,hxs,hf⟩:=DataW.trod_struct Tryz.underlying25 h;have e9:Tryz.prog.cellsOf 25=4:=by kernel_rfl
  rw [e9] at hl;have hl2:cs.toList.length=4:=hl;clear hl e9;obtain ⟨l⟩:=cs;obtain ⟨v0,v1,v2,v3,rfl⟩:=aaT hl2;have g0:DataW.trod enc Tryz.prog w base (fun _=>true) held n 3 (List.take (Tryz.prog.cellsOf 3) (List.drop 0 [v0,v1,v2,v3]))=xs[0]? := hf 0 _ rfl;rw [show Tryz.prog.cellsOf 3=1 by kernel_rfl] at g0;have g1:DataW.trod enc Tryz.prog w base (fun _=>true) held n 3 (List.take (Tryz.prog.cellsOf 3) (List.drop 1 [v0,v1,v2,v3]))=xs[1]? := hf 1 _ rfl;rw [show Tryz.prog.cellsOf 3=1 by kernel_rfl] at g1;have g2:DataW.trod enc Tryz.prog w base (fun _=>true) held n 22 (List.take (Tryz.prog.cellsOf 22) (List.drop 2 [v0,v1,v2,v3]))=xs[2]? := hf 2 _ rfl;rw [show Tryz.prog.cellsOf 22=1 by kernel_rfl] at g2;have g3:DataW.trod enc Tryz.prog w base (fun _=>true) held n 23 (List.take (Tryz.prog.cellsOf 23) (List.drop 3 [v0,v1,v2,v3]))=xs[3]? := hf 3 _ rfl;rw [show Tryz.prog.cellsOf 23=1 by kernel_rfl] at g3;have hx:∀ j,j<4→∃ y,xs[j]? = some y:=fun j hj=>⟨_,List.getElem?_eq_getElem (by rw [hxs];exact hj)⟩;obtain ⟨y0,e0⟩:=hx 0 (by omega);obtain ⟨y1,e1⟩:=hx 1 (by omega);obtain ⟨y2,e2⟩:=hx 2 (by omega);obtain ⟨y3,e3⟩:=hx 3 (by omega);rw [e0] at g0;rw [e1] at g1;rw [e2] at g2;rw [e3] at g3;obtain ⟨p,ep,wp⟩:=mK g0;obtain ⟨c,ec,wc⟩:=mK g1;obtain ⟨A2,c2,core,e2',l1,l2,l3,l4⟩:=abQ g2;obtain ⟨A3,c3,odd,e3',m1,m2,m3,m4⟩:=adx g3;have ac:[v0]=[.int .i64 p]:=ep;have af:[v1]=[.int .i64 c]:=ec;have aa:[v2]=[.slice A2 core.length c2]:=e2';have ab:[v3]=[.slice A3 odd.length c3]:=e3';injection ac with ac
  injection af with af
  injection aa with aa
  injection ab with ab
  subst ac af aa ab;exact ⟨p,c,A2,c2,core,A3,c3,odd,rfl,l2,l1,m2,m1,⟨wp,wc,l3,m3,l4,m4⟩⟩
end
end Go.Proofs.YtcomnjodjijcmaaGreat.P
