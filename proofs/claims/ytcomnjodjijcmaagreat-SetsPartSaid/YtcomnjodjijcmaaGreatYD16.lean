/- Lemmas for laws of chapter 7: what the functions that they reach compute. No condition of its own. -/
import Derived.Test.YtcomnjodjijcmaaGreatYD9
import Derived.Test.YtcomnjodjijcmaaGreatYD10
import Derived.Test.YtcomnjodjijcmaaGreatYD12
import Derived.Test.YtcomnjodjijcmaaGreatYD13
import Derived.Test.YtcomnjodjijcmaaGreatYD14
import Derived.Test.YtcomnjodjijcmaaGreatYD15
import Derived.Test.YtcomnjodjijcmaaGreatYD2
import Derived.Deep.SlicePairs
import Derived.ChangeArms
import Derived.ProofKit
import Derived.Deep.Slices
namespace Go.Proofs.YtcomnjodjijcmaaGreat.R
open M Go.RowKit Go.Proofs.YtcomnjodjijcmaaGreatW.dA Go.Proofs.YtcomnjodjijcmaaGreatW.dX Go.Proofs.YtcomnjodjijcmaaGreatW.eD
set_option linter.unusedVariables false
noncomputable def eu.m (k:Nat):Sm:=jd [.fm,.fm] [.pl (.sl 3 (.int .i64))] (fun a=>eu.f k a.1.f0 a.1.f1 a.1.f2 a.1.f3 a.2.1.f0 a.2.1.f1 a.2.1.f2 a.2.1.f3)
noncomputable def eu.l0.p:PS:=⟨nOs 5++[.one (.mu 3 (.int .i64))]++nOs 7++[.one (.o 44 .gr),.one (.i .i64),.one (.i .i64)]++nOs 13,[.box 25 [.i .i64,.i .i64,.s (.sl 42 .sp),.s .gr],.box 25 [.i .i64,.i .i64,.s (.sl 42 .sp),.s .gr]]⟩
noncomputable def eu.l0.c {γ:Type} (YK:HdK γ) (K:dO→St→Option γ) (c5:Int) (c6:Int) (c7:List (List P.S42)) (c8:List P.S44) (c9:Int) (c10:Int) (c11:List (List P.S42)) (c12:List P.S44):=(fun y1=>K (.exit 0) ((⟨nOs 5++[.one (.mu 3 (.int .i64))]++nOs 23,[.box 25 [.i .i64,.i .i64,.s (.sl 42 .sp),.s .gr],.box 25 [.i .i64,.i .i64,.s (.sl 42 .sp),.s .gr]]⟩:PS).mk' [.l (.int .i64) y1,.i c5,.i c6,.l (.sl 42 .sp) c7,.l .gr c8,.i c9,.i c10,.l (.sl 42 .sp) c11,.l .gr c12]))
noncomputable def eu.l0.g {γ:Type} (YK:HdK γ) (k:Nat) (K:dO→St→Option γ):List Lf→Option γ
  | [.l (.int .i64) v1,.l .gr c2,.i c3,.i v4,.i c5,.i c6,.l (.sl 42 .sp) c7,.l .gr c8,.i c9,.i c10,.l (.sl 42 .sp) c11,.l .gr c12]=>eu.l0 (eu.l0.c YK K c5 c6 c7 c8 c9 c10 c11 c12) c2 c3 k v1 v4
  | _=>none
noncomputable def eu.C {γ:Type}:Ctx γ:=mkC (fun k=>mkE [(114,eU.m k)] []) [(62,Tryz.f62)] [(62,mkA [19] [(0,[5,13,14,15])] [(0,[5])] [(1,[],[.mu (.tm 5)]),(7,[.op (.tm 5)],[])])] [⟨1,62,0,iB [(eu.l0.p,eu.l0.g)]⟩] []
theorem eu.l0.eq {γ:Type} (YK:HdK γ) (rl:Option Nat) (K:dO→St→Option γ) (c2:List P.S44) (c3:Int) (c5:Int) (c6:Int) (c7:List (List P.S42)) (c8:List P.S44) (c9:Int) (c10:Int) (c11:List (List P.S42)) (c12:List P.S44):∀ k:Nat,(fun (v1:List Int) (v4:Int)=>eu.C.lK 1 62 0 Tryz.f62 YK rl 2 k (eu.l0.p.mk' [.l (.int .i64) v1,.l .gr c2,.i c3,.i v4,.i c5,.i c6,.l (.sl 42 .sp) c7,.l .gr c8,.i c9,.i c10,.l (.sl 42 .sp) c11,.l .gr c12]) K)=(fun (v1:List Int) (v4:Int)=>eu.l0.g YK k K [.l (.int .i64) v1,.l .gr c2,.i c3,.i v4,.i c5,.i c6,.l (.sl 42 .sp) c7,.l .gr c8,.i c9,.i c10,.l (.sl 42 .sp) c11,.l .gr c12]):=fE (fun R k v1 v4=>eu.l0T (eu.l0.c YK K c5 c6 c7 c8 c9 c10 c11 c12) c2 c3 R k v1 v4) (by kernel_rfl) (fun k=>by kernel_rfl) (fun k=>by kernel_rfl)
theorem eu.fJ {γ:Type}:(eu.C (γ:=γ)).Ok:=⟨(all_cons (fun k=>by kernel_rfl) all_nil),(all_cons (by kernel_rfl) all_nil),all_nil⟩
theorem eu.e0 {γ:Type}:iw (eu.C (γ:=γ)) ⟨1,62,0,iB [(eu.l0.p,eu.l0.g)]⟩:=eu.fJ.jY Tryz.f62 [] (by kernel_rfl) (by kernel_rfl) (by kernel_rfl) (all_cons iN all_nil) (all_cons (fun YK rl k ls K v hv=>(show eu.l0.g YK k K ls=some v→_ from fun hv=>by
  unfold eu.l0.g at hv;split at hv
  · exact (congrFun (congrFun (eu.l0.eq YK rl K _ _ _ _ _ _ _ _ _ _ k) _) _).trans hv
  · cases hv) hv) all_nil)
theorem eu.ok (k:Nat):jg Tryz.prog 62 (eu.m k).s:=okW eu.fJ 1 Tryz.f62 k all_nil (fun k=>all_cons (eU.ok k) (all_nil)) (all_cons ⟨Tryz.func62,by kernel_rfl⟩ all_nil) (all_cons eu.e0 all_nil) (by kernel_rfl) (by kernel_rfl) (fun a=>by kernel_rfl)
noncomputable def dY.m (k:Nat):Sm:=jd [.fm,.fm] [.pl .bool,.pl (.int .i64)] (fun a=>dY.f k a.1.f0 a.1.f1 a.1.f2 a.1.f3 a.2.1.f0 a.2.1.f1 a.2.1.f2 a.2.1.f3)
noncomputable def dY.l0.p:PS:=⟨nOs 8++[.one (.fn 61 [0,1])]++nOs 20++[.one (.s (.int .i64)),.one (.i .i64),.one (.i .i64)]++nOs 8,[.box 25 [.i .i64,.i .i64,.s (.sl 42 .sp),.s .gr],.box 25 [.i .i64,.i .i64,.s (.sl 42 .sp),.s .gr]]⟩
noncomputable def dY.l0.c {γ:Type} (YK:HdK γ) (K:dO→St→Option γ) (c4:Int) (c5:Int) (c6:List (List P.S42)) (c7:List P.S44) (c8:Int) (c9:Int) (c10:List (List P.S42)) (c11:List P.S44):=((K .ret ((⟨nOs 4++[.one (.lb false),.one (.li .i64 0)]++nOs 34,[.box 25 [.i .i64,.i .i64,.s (.sl 42 .sp),.s .gr],.box 25 [.i .i64,.i .i64,.s (.sl 42 .sp),.s .gr]]⟩:PS).mk' [.i c4,.i c5,.l (.sl 42 .sp) c6,.l .gr c7,.i c8,.i c9,.l (.sl 42 .sp) c10,.l .gr c11])),(K (.exit 0) ((⟨nOs 40,[.box 25 [.i .i64,.i .i64,.s (.sl 42 .sp),.s .gr],.box 25 [.i .i64,.i .i64,.s (.sl 42 .sp),.s .gr]]⟩:PS).mk' [.i c4,.i c5,.l (.sl 42 .sp) c6,.l .gr c7,.i c8,.i c9,.l (.sl 42 .sp) c10,.l .gr c11])))
noncomputable def dY.l0.g {γ:Type} (YK:HdK γ) (k:Nat) (K:dO→St→Option γ):List Lf→Option γ
  | [.l (.int .i64) c1,.i c2,.i v3,.i c4,.i c5,.l (.sl 42 .sp) c6,.l .gr c7,.i c8,.i c9,.l (.sl 42 .sp) c10,.l .gr c11]=>let q:=dY.l0.c YK K c4 c5 c6 c7 c8 c9 c10 c11;dY.l0 q.1 q.2 c1 c2 c4 c5 c6 c7 c8 c9 c10 c11 k v3
  | _=>none
noncomputable def dY.C {γ:Type}:Ctx γ:=mkC (fun k=>mkE [(19,gy.m k),(20,fO.m k),(59,eF.m k),(60,dV.m k),(62,eu.m k)] []) [(22,Tryz.f22),(61,Tryz.f61)] [(22,mkA [] [(0,[8,29,30,31])] [(0,[4,5])] []),(61,mkA [] [] [] [])] [⟨1,22,0,iB [(dY.l0.p,dY.l0.g)]⟩] []
theorem dY.l0.eq {γ:Type} (YK:HdK γ) (rl:Option Nat) (K:dO→St→Option γ) (c1:List Int) (c2:Int) (c4:Int) (c5:Int) (c6:List (List P.S42)) (c7:List P.S44) (c8:Int) (c9:Int) (c10:List (List P.S42)) (c11:List P.S44):∀ k:Nat,(fun (v3:Int)=>dY.C.lK 1 22 0 Tryz.f22 YK rl 2 k (dY.l0.p.mk' [.l (.int .i64) c1,.i c2,.i v3,.i c4,.i c5,.l (.sl 42 .sp) c6,.l .gr c7,.i c8,.i c9,.l (.sl 42 .sp) c10,.l .gr c11]) K)=(fun (v3:Int)=>dY.l0.g YK k K [.l (.int .i64) c1,.i c2,.i v3,.i c4,.i c5,.l (.sl 42 .sp) c6,.l .gr c7,.i c8,.i c9,.l (.sl 42 .sp) c10,.l .gr c11]):=fE (fun R k v3=>dY.l0T (dY.l0.c YK K c4 c5 c6 c7 c8 c9 c10 c11).1 (dY.l0.c YK K c4 c5 c6 c7 c8 c9 c10 c11).2 c1 c2 c4 c5 c6 c7 c8 c9 c10 c11 R k v3) (by kernel_rfl) (fun k=>by kernel_rfl) (fun k=>by kernel_rfl)
theorem dY.fJ {γ:Type}:(dY.C (γ:=γ)).Ok:=⟨(all_cons (fun k=>by kernel_rfl) (all_cons (fun k=>by kernel_rfl) all_nil)),(all_cons (by kernel_rfl) (all_cons (by kernel_rfl) all_nil)),all_nil⟩
theorem dY.e0 {γ:Type}:iw (dY.C (γ:=γ)) ⟨1,22,0,iB [(dY.l0.p,dY.l0.g)]⟩:=dY.fJ.jY Tryz.f22 [] (by kernel_rfl) (by kernel_rfl) (by kernel_rfl) (all_cons iN all_nil) (all_cons (fun YK rl k ls K v hv=>(show dY.l0.g YK k K ls=some v→_ from fun hv=>by
  unfold dY.l0.g at hv;split at hv
  · exact (congrFun (dY.l0.eq YK rl K _ _ _ _ _ _ _ _ _ _ k) _).trans hv
  · cases hv) hv) all_nil)
theorem dY.ok (k:Nat):jg Tryz.prog 22 (dY.m k).s:=okW dY.fJ 1 Tryz.f22 k all_nil (fun k=>all_cons (gy.ok k) (all_cons (fO.ok k) (all_cons (eF.ok k) (all_cons (dV.ok k) (all_cons (eu.ok k) (all_nil)))))) (all_cons ⟨Tryz.func22,by kernel_rfl⟩ (all_cons ⟨Tryz.func61,by kernel_rfl⟩ all_nil)) (all_cons dY.e0 all_nil) (by kernel_rfl) (by kernel_rfl) (fun a=>by kernel_rfl)
noncomputable def fU.m (k:Nat):Sm:=jd [.fm,.fm,(.int .u8),(.int .i8)] [.pl .bool] (fun a=>fU.f k a.1.f0 a.1.f1 a.1.f2 a.1.f3 a.2.1.f0 a.2.1.f1 a.2.1.f2 a.2.1.f3 a.2.2.1 a.2.2.2.1)
noncomputable def fU.C {γ:Type}:Ctx γ:=mkC (fun k=>mkE [(8,dx.m k),(9,fu.m k),(10,dL.m k),(11,dB.m k),(12,dM.m k),(13,dJ.m k),(14,dh.m k),(21,cO.m k),(22,dY.m k)] []) [(6,Tryz.f6)] [(6,mkA [] [] [] [])] [] []
theorem fU.fJ {γ:Type}:(fU.C (γ:=γ)).Ok:=⟨(all_cons (fun k=>by kernel_rfl) all_nil),(all_cons (by kernel_rfl) all_nil),all_nil⟩
theorem fU.ok (k:Nat):jg Tryz.prog 6 (fU.m k).s:=okW fU.fJ 0 Tryz.f6 k all_nil (fun k=>all_cons (dx.ok k) (all_cons (fu.ok k) (all_cons (dL.ok k) (all_cons (dB.ok k) (all_cons (dM.ok k) (all_cons (dJ.ok k) (all_cons (dh.ok k) (all_cons (cO.ok k) (all_cons (dY.ok k) (all_nil)))))))))) (all_cons ⟨Tryz.func6,by kernel_rfl⟩ all_nil) all_nil (by kernel_rfl) (by kernel_rfl) (fun a=>by kernel_rfl)
noncomputable def fH.m (k:Nat):Sm:=jd [(.sl 42 .sp),.bool] [.pl (.int .i64)] (fun a=>fH.f k a.1 a.2.1)
noncomputable def gU.m (k:Nat):Sm:=jd [(.sl 42 .sp),.bool,(.int .i64)] [.pl (.sl 42 .sp),.pl .bool] (fun a=>gU.f k a.1 a.2.1 a.2.2.1)
noncomputable def lZ.m (k:Nat):Sm:=jd [.bool,.bool] [.pl .bool] (fun a=>lZ.f k a.1 a.2.1)
noncomputable def fI.y0.p0:List PB:=[.box 78 [.fn 64 []],.box 37 [.o 42 .sp],.box 4 [.b],.box 3 [.i .i64],.box 37 [.s .sp],.box 37 [.s .sp],.box 144 [.fn 151 []],.lp .normal]
noncomputable def fI.y0 {γ:Type} (x:AV) (bx:List Bx) (x0:(List P.S42)→Bool→Int→(List P.S42)→(List P.S42)→Option γ):Option γ :=
  match yrd true fI.y0.p0 x bx with
  | some [.l .sp z1,.b z2,.i z3,.l .sp z4,.l .sp z5]=>(x0 z1 z2 z3 z4 z5)
  | _=>none
noncomputable def fI.y0T {γ:Type}:YdK γ:=fun K x bx=>fI.y0 x bx (fun z1 z2 z3 z4 z5=>K (lW true) (xH fI.y0.p0 [.l .sp z1,.b z2,.i z3,.l .sp z4,.l .sp z5]).1)
noncomputable def fI.l0.p:PS:=⟨[.one (.yl 7),.one (.bp 4 0),.one (.bp 5 0),.one (.bp 6 0),nO,.one (.b),.one (.b)]++nOs 53,[.box 78 [.fn 64 []],.box 37 [.o 42 .sp],.box 4 [.b],.box 3 [.i .i64],.box 37 [.s .sp],.box 37 [.s .sp],.box 144 [.fn 151 []],.lp .normal]⟩
noncomputable def fI.l0.c {γ:Type} (YK:HdK γ) (K:dO→St→Option γ)  := ((fun q0 q1 q2 q3 q4 q5 q6 q7 x0=>(YK 7).bind fun h=>h [.pt (.agg [.v (.int .i64 q0),.v (.bool q1),.v (.bool q2)])] [.box 78 [.fn 64 []],.box 37 [.ow 42 .sp q3],.box 4 [.v (.bool q4)],.box 3 [.v (.int .i64 q5)],.box 37 [.sl .sp q6],.box 37 [.sl .sp q7],.box 144 [.fn 151 []],.lp .normal] (fun x bx=>fI.y0 x bx x0)),(fun y1 y2 y3 y4 y5=>K (.exit 0) ((⟨nOs 60,[.box 78 [.fn 64 []],.box 37 [.o 42 .sp],.box 4 [.b],.box 3 [.i .i64],.box 37 [.s .sp],.box 37 [.s .sp],.box 144 [.fn 151 []],.lp .normal]⟩:PS).mk' [.l .sp y1,.b y2,.i y3,.l .sp y4,.l .sp y5])))
noncomputable def fI.l0.g {γ:Type} (YK:HdK γ) (k:Nat) (K:dO→St→Option γ):List Lf→Option γ
  | [.b v1,.b v2,.l .sp v3,.b v4,.i v5,.l .sp v6,.l .sp v7]=>let q:=fI.l0.c YK K;fI.l0 q.1 q.2 k v1 v2 v3 v4 v5 v6 v7
  | _=>none
noncomputable def fI.C {γ:Type}:Ctx γ:=mkC (fun k=>mkE [(64,lZ.m k),(151,fH.m k),(153,gU.m k)] []) [(23,Tryz.f23),(63,Tryz.f63),(115,Tryz.f115),(152,Tryz.f152)] [(23,mkA [] [] [] []),(63,mkA [36,45] [] [] []),(115,mkA [] [] [] []),(152,mkA [100014,100018] [(0,[0,1,2,3,5,6])] [(0,[])] [])] [⟨1,152,0,iB [(fI.l0.p,fI.l0.g)]⟩] [⟨1,152,7,fI.y0T⟩]
theorem fI.l0.eq {γ:Type} (YK:HdK γ) (rl:Option Nat) (K:dO→St→Option γ)  : ∀ k:Nat,(fun (v1:Bool) (v2:Bool) (v3:List P.S42) (v4:Bool) (v5:Int) (v6:List P.S42) (v7:List P.S42)=>fI.C.lK 1 152 0 Tryz.f152 YK rl 8 k (fI.l0.p.mk' [.b v1,.b v2,.l .sp v3,.b v4,.i v5,.l .sp v6,.l .sp v7]) K)=(fun (v1:Bool) (v2:Bool) (v3:List P.S42) (v4:Bool) (v5:Int) (v6:List P.S42) (v7:List P.S42)=>fI.l0.g YK k K [.b v1,.b v2,.l .sp v3,.b v4,.i v5,.l .sp v6,.l .sp v7]):=fE (fun R k v1 v2 v3 v4 v5 v6 v7=>fI.l0T (fI.l0.c YK K).1 (fI.l0.c YK K).2 R k v1 v2 v3 v4 v5 v6 v7) (by kernel_rfl) (fun k=>by kernel_rfl) (fun k=>by kernel_rfl)
noncomputable def nR.m (k:Nat):Sm:=jd [.bool,.bool] [.pl .bool] (fun a=>nR.f k a.1 a.2.1)
noncomputable def gV.y0.p0:List PB:=[.box 78 [.fn 65 []],.box 37 [.o 42 .sp],.box 4 [.b],.box 3 [.i .i64],.box 37 [.s .sp],.box 37 [.s .sp],.box 144 [.fn 151 []],.lp .normal]
noncomputable def gV.y0 {γ:Type} (x:AV) (bx:List Bx) (x0:(List P.S42)→Bool→Int→(List P.S42)→(List P.S42)→Option γ):Option γ :=
  match yrd true gV.y0.p0 x bx with
  | some [.l .sp z1,.b z2,.i z3,.l .sp z4,.l .sp z5]=>(x0 z1 z2 z3 z4 z5)
  | _=>none
noncomputable def gV.y0T {γ:Type}:YdK γ:=fun K x bx=>gV.y0 x bx (fun z1 z2 z3 z4 z5=>K (lW true) (xH gV.y0.p0 [.l .sp z1,.b z2,.i z3,.l .sp z4,.l .sp z5]).1)
noncomputable def gV.l0.p:PS:=⟨[.one (.yl 7),.one (.bp 4 0),.one (.bp 5 0),.one (.bp 6 0),nO,.one (.b),.one (.b)]++nOs 53,[.box 78 [.fn 65 []],.box 37 [.o 42 .sp],.box 4 [.b],.box 3 [.i .i64],.box 37 [.s .sp],.box 37 [.s .sp],.box 144 [.fn 151 []],.lp .normal]⟩
noncomputable def gV.l0.c {γ:Type} (YK:HdK γ) (K:dO→St→Option γ)  := ((fun q0 q1 q2 q3 q4 q5 q6 q7 x0=>(YK 7).bind fun h=>h [.pt (.agg [.v (.int .i64 q0),.v (.bool q1),.v (.bool q2)])] [.box 78 [.fn 65 []],.box 37 [.ow 42 .sp q3],.box 4 [.v (.bool q4)],.box 3 [.v (.int .i64 q5)],.box 37 [.sl .sp q6],.box 37 [.sl .sp q7],.box 144 [.fn 151 []],.lp .normal] (fun x bx=>gV.y0 x bx x0)),(fun y1 y2 y3 y4 y5=>K (.exit 0) ((⟨nOs 60,[.box 78 [.fn 65 []],.box 37 [.o 42 .sp],.box 4 [.b],.box 3 [.i .i64],.box 37 [.s .sp],.box 37 [.s .sp],.box 144 [.fn 151 []],.lp .normal]⟩:PS).mk' [.l .sp y1,.b y2,.i y3,.l .sp y4,.l .sp y5])))
noncomputable def gV.l0.g {γ:Type} (YK:HdK γ) (k:Nat) (K:dO→St→Option γ):List Lf→Option γ
  | [.b v1,.b v2,.l .sp v3,.b v4,.i v5,.l .sp v6,.l .sp v7]=>let q:=gV.l0.c YK K;gV.l0 q.1 q.2 k v1 v2 v3 v4 v5 v6 v7
  | _=>none
noncomputable def gV.C {γ:Type}:Ctx γ:=mkC (fun k=>mkE [(65,nR.m k),(151,fH.m k),(153,gU.m k)] []) [(24,Tryz.f24),(63,Tryz.f63),(115,Tryz.f115),(152,Tryz.f152)] [(24,mkA [] [] [] []),(63,mkA [36,45] [] [] []),(115,mkA [] [] [] []),(152,mkA [100014,100018] [(0,[0,1,2,3,5,6])] [(0,[])] [])] [⟨1,152,0,iB [(gV.l0.p,gV.l0.g)]⟩] [⟨1,152,7,gV.y0T⟩]
theorem gV.l0.eq {γ:Type} (YK:HdK γ) (rl:Option Nat) (K:dO→St→Option γ)  : ∀ k:Nat,(fun (v1:Bool) (v2:Bool) (v3:List P.S42) (v4:Bool) (v5:Int) (v6:List P.S42) (v7:List P.S42)=>gV.C.lK 1 152 0 Tryz.f152 YK rl 8 k (gV.l0.p.mk' [.b v1,.b v2,.l .sp v3,.b v4,.i v5,.l .sp v6,.l .sp v7]) K)=(fun (v1:Bool) (v2:Bool) (v3:List P.S42) (v4:Bool) (v5:Int) (v6:List P.S42) (v7:List P.S42)=>gV.l0.g YK k K [.b v1,.b v2,.l .sp v3,.b v4,.i v5,.l .sp v6,.l .sp v7]):=fE (fun R k v1 v2 v3 v4 v5 v6 v7=>gV.l0T (gV.l0.c YK K).1 (gV.l0.c YK K).2 R k v1 v2 v3 v4 v5 v6 v7) (by kernel_rfl) (fun k=>by kernel_rfl) (fun k=>by kernel_rfl)
noncomputable def mI.m (k:Nat):Sm:=jd [.bool,.bool] [.pl .bool] (fun a=>mI.f k a.1 a.2.1)
noncomputable def gq.y0.p0:List PB:=[.box 78 [.fn 66 []],.box 37 [.o 42 .sp],.box 4 [.b],.box 3 [.i .i64],.box 37 [.s .sp],.box 37 [.s .sp],.box 144 [.fn 151 []],.lp .normal]
noncomputable def gq.y0 {γ:Type} (x:AV) (bx:List Bx) (x0:(List P.S42)→Bool→Int→(List P.S42)→(List P.S42)→Option γ):Option γ :=
  match yrd true gq.y0.p0 x bx with
  | some [.l .sp z1,.b z2,.i z3,.l .sp z4,.l .sp z5]=>(x0 z1 z2 z3 z4 z5)
  | _=>none
noncomputable def gq.y0T {γ:Type}:YdK γ:=fun K x bx=>gq.y0 x bx (fun z1 z2 z3 z4 z5=>K (lW true) (xH gq.y0.p0 [.l .sp z1,.b z2,.i z3,.l .sp z4,.l .sp z5]).1)
noncomputable def gq.l0.p:PS:=⟨[.one (.yl 7),.one (.bp 4 0),.one (.bp 5 0),.one (.bp 6 0),nO,.one (.b),.one (.b)]++nOs 53,[.box 78 [.fn 66 []],.box 37 [.o 42 .sp],.box 4 [.b],.box 3 [.i .i64],.box 37 [.s .sp],.box 37 [.s .sp],.box 144 [.fn 151 []],.lp .normal]⟩
noncomputable def gq.l0.c {γ:Type} (YK:HdK γ) (K:dO→St→Option γ)  := ((fun q0 q1 q2 q3 q4 q5 q6 q7 x0=>(YK 7).bind fun h=>h [.pt (.agg [.v (.int .i64 q0),.v (.bool q1),.v (.bool q2)])] [.box 78 [.fn 66 []],.box 37 [.ow 42 .sp q3],.box 4 [.v (.bool q4)],.box 3 [.v (.int .i64 q5)],.box 37 [.sl .sp q6],.box 37 [.sl .sp q7],.box 144 [.fn 151 []],.lp .normal] (fun x bx=>gq.y0 x bx x0)),(fun y1 y2 y3 y4 y5=>K (.exit 0) ((⟨nOs 60,[.box 78 [.fn 66 []],.box 37 [.o 42 .sp],.box 4 [.b],.box 3 [.i .i64],.box 37 [.s .sp],.box 37 [.s .sp],.box 144 [.fn 151 []],.lp .normal]⟩:PS).mk' [.l .sp y1,.b y2,.i y3,.l .sp y4,.l .sp y5])))
noncomputable def gq.l0.g {γ:Type} (YK:HdK γ) (k:Nat) (K:dO→St→Option γ):List Lf→Option γ
  | [.b v1,.b v2,.l .sp v3,.b v4,.i v5,.l .sp v6,.l .sp v7]=>let q:=gq.l0.c YK K;gq.l0 q.1 q.2 k v1 v2 v3 v4 v5 v6 v7
  | _=>none
noncomputable def gq.C {γ:Type}:Ctx γ:=mkC (fun k=>mkE [(66,mI.m k),(151,fH.m k),(153,gU.m k)] []) [(25,Tryz.f25),(63,Tryz.f63),(115,Tryz.f115),(152,Tryz.f152)] [(25,mkA [] [] [] []),(63,mkA [36,45] [] [] []),(115,mkA [] [] [] []),(152,mkA [100014,100018] [(0,[0,1,2,3,5,6])] [(0,[])] [])] [⟨1,152,0,iB [(gq.l0.p,gq.l0.g)]⟩] [⟨1,152,7,gq.y0T⟩]
theorem gq.l0.eq {γ:Type} (YK:HdK γ) (rl:Option Nat) (K:dO→St→Option γ)  : ∀ k:Nat,(fun (v1:Bool) (v2:Bool) (v3:List P.S42) (v4:Bool) (v5:Int) (v6:List P.S42) (v7:List P.S42)=>gq.C.lK 1 152 0 Tryz.f152 YK rl 8 k (gq.l0.p.mk' [.b v1,.b v2,.l .sp v3,.b v4,.i v5,.l .sp v6,.l .sp v7]) K)=(fun (v1:Bool) (v2:Bool) (v3:List P.S42) (v4:Bool) (v5:Int) (v6:List P.S42) (v7:List P.S42)=>gq.l0.g YK k K [.b v1,.b v2,.l .sp v3,.b v4,.i v5,.l .sp v6,.l .sp v7]):=fE (fun R k v1 v2 v3 v4 v5 v6 v7=>gq.l0T (gq.l0.c YK K).1 (gq.l0.c YK K).2 R k v1 v2 v3 v4 v5 v6 v7) (by kernel_rfl) (fun k=>by kernel_rfl) (fun k=>by kernel_rfl)
noncomputable def kL.m (k:Nat):Sm:=jd [.gr,.gr] [.pl .bool] (fun a=>kL.f k a.1.f0 a.1.f1 a.2.1.f0 a.2.1.f1)
noncomputable def eX.l0.p:PS:=⟨[nO,.one (.s (.sl 42 .sp)),.one (.fn 20 [])]++nOs 12++[.one (.s (.sl 42 .sp)),.one (.i .i64),.one (.i .i64)]++nOs 14,[.box 25 [.i .i64,.i .i64,.s (.sl 42 .sp),.s .gr],.box 25 [.i .i64,.i .i64,.s (.sl 42 .sp),.s .gr]]⟩
noncomputable def eX.l0.c {γ:Type} (YK:HdK γ) (K:dO→St→Option γ) (c5:Int) (c6:Int) (c7:List (List P.S42)) (c8:List P.S44) (c9:Int) (c10:Int) (c11:List (List P.S42)) (c12:List P.S44):=((K .ret ((⟨nOs 6++[.one (.lb false)]++nOs 25,[.box 25 [.i .i64,.i .i64,.s (.sl 42 .sp),.s .gr],.box 25 [.i .i64,.i .i64,.s (.sl 42 .sp),.s .gr]]⟩:PS).mk' [.i c5,.i c6,.l (.sl 42 .sp) c7,.l .gr c8,.i c9,.i c10,.l (.sl 42 .sp) c11,.l .gr c12])),(K (.exit 0) ((⟨nOs 32,[.box 25 [.i .i64,.i .i64,.s (.sl 42 .sp),.s .gr],.box 25 [.i .i64,.i .i64,.s (.sl 42 .sp),.s .gr]]⟩:PS).mk' [.i c5,.i c6,.l (.sl 42 .sp) c7,.l .gr c8,.i c9,.i c10,.l (.sl 42 .sp) c11,.l .gr c12])))
noncomputable def eX.l0.g {γ:Type} (YK:HdK γ) (k:Nat) (K:dO→St→Option γ):List Lf→Option γ
  | [.l (.sl 42 .sp) c1,.l (.sl 42 .sp) c2,.i c3,.i v4,.i c5,.i c6,.l (.sl 42 .sp) c7,.l .gr c8,.i c9,.i c10,.l (.sl 42 .sp) c11,.l .gr c12]=>let q:=eX.l0.c YK K c5 c6 c7 c8 c9 c10 c11 c12;eX.l0 q.1 q.2 c1 c2 c3 k v4
  | _=>none
noncomputable def eX.l1.p:PS:=⟨[nO,.one (.s .gr),.one (.fn 118 [])]++nOs 12++[.one (.s .gr),.one (.i .i64),.one (.i .i64)]++nOs 14,[.box 25 [.i .i64,.i .i64,.s (.sl 42 .sp),.s .gr],.box 25 [.i .i64,.i .i64,.s (.sl 42 .sp),.s .gr]]⟩
noncomputable def eX.l1.c {γ:Type} (YK:HdK γ) (K:dO→St→Option γ) (c5:Int) (c6:Int) (c7:List (List P.S42)) (c8:List P.S44) (c9:Int) (c10:Int) (c11:List (List P.S42)) (c12:List P.S44):=((K .ret ((⟨nOs 6++[.one (.lb false)]++nOs 25,[.box 25 [.i .i64,.i .i64,.s (.sl 42 .sp),.s .gr],.box 25 [.i .i64,.i .i64,.s (.sl 42 .sp),.s .gr]]⟩:PS).mk' [.i c5,.i c6,.l (.sl 42 .sp) c7,.l .gr c8,.i c9,.i c10,.l (.sl 42 .sp) c11,.l .gr c12])),(K (.exit 0) ((⟨nOs 32,[.box 25 [.i .i64,.i .i64,.s (.sl 42 .sp),.s .gr],.box 25 [.i .i64,.i .i64,.s (.sl 42 .sp),.s .gr]]⟩:PS).mk' [.i c5,.i c6,.l (.sl 42 .sp) c7,.l .gr c8,.i c9,.i c10,.l (.sl 42 .sp) c11,.l .gr c12])))
noncomputable def eX.l1.g {γ:Type} (YK:HdK γ) (k:Nat) (K:dO→St→Option γ):List Lf→Option γ
  | [.l .gr c1,.l .gr c2,.i c3,.i v4,.i c5,.i c6,.l (.sl 42 .sp) c7,.l .gr c8,.i c9,.i c10,.l (.sl 42 .sp) c11,.l .gr c12]=>let q:=eX.l1.c YK K c5 c6 c7 c8 c9 c10 c11 c12;eX.l1 q.1 q.2 c1 c2 c3 k v4
  | _=>none
noncomputable def eX.C {γ:Type}:Ctx γ:=mkC (fun k=>mkE [(20,fO.m k),(118,kL.m k)] []) [(67,Tryz.f67),(116,Tryz.f116),(117,Tryz.f117)] [(67,mkA [] [] [] []),(116,mkA [] [(0,[1,2,15,16,17])] [(0,[6])] []),(117,mkA [] [(0,[1,2,15,16,17])] [(0,[6])] [])] [⟨0,116,0,iB [(eX.l0.p,eX.l0.g)]⟩,⟨0,117,0,iB [(eX.l1.p,eX.l1.g)]⟩] []
theorem eX.l0.eq {γ:Type} (YK:HdK γ) (rl:Option Nat) (K:dO→St→Option γ) (c1:List (List P.S42)) (c2:List (List P.S42)) (c3:Int) (c5:Int) (c6:Int) (c7:List (List P.S42)) (c8:List P.S44) (c9:Int) (c10:Int) (c11:List (List P.S42)) (c12:List P.S44):∀ k:Nat,(fun (v4:Int)=>eX.C.lK 0 116 0 Tryz.f116 YK rl 2 k (eX.l0.p.mk' [.l (.sl 42 .sp) c1,.l (.sl 42 .sp) c2,.i c3,.i v4,.i c5,.i c6,.l (.sl 42 .sp) c7,.l .gr c8,.i c9,.i c10,.l (.sl 42 .sp) c11,.l .gr c12]) K)=(fun (v4:Int)=>eX.l0.g YK k K [.l (.sl 42 .sp) c1,.l (.sl 42 .sp) c2,.i c3,.i v4,.i c5,.i c6,.l (.sl 42 .sp) c7,.l .gr c8,.i c9,.i c10,.l (.sl 42 .sp) c11,.l .gr c12]):=fE (fun R k v4=>eX.l0T (eX.l0.c YK K c5 c6 c7 c8 c9 c10 c11 c12).1 (eX.l0.c YK K c5 c6 c7 c8 c9 c10 c11 c12).2 c1 c2 c3 R k v4) (by kernel_rfl) (fun k=>by kernel_rfl) (fun k=>by kernel_rfl)
theorem eX.l1.eq {γ:Type} (YK:HdK γ) (rl:Option Nat) (K:dO→St→Option γ) (c1:List P.S44) (c2:List P.S44) (c3:Int) (c5:Int) (c6:Int) (c7:List (List P.S42)) (c8:List P.S44) (c9:Int) (c10:Int) (c11:List (List P.S42)) (c12:List P.S44):∀ k:Nat,(fun (v4:Int)=>eX.C.lK 0 117 0 Tryz.f117 YK rl 2 k (eX.l1.p.mk' [.l .gr c1,.l .gr c2,.i c3,.i v4,.i c5,.i c6,.l (.sl 42 .sp) c7,.l .gr c8,.i c9,.i c10,.l (.sl 42 .sp) c11,.l .gr c12]) K)=(fun (v4:Int)=>eX.l1.g YK k K [.l .gr c1,.l .gr c2,.i c3,.i v4,.i c5,.i c6,.l (.sl 42 .sp) c7,.l .gr c8,.i c9,.i c10,.l (.sl 42 .sp) c11,.l .gr c12]):=fE (fun R k v4=>eX.l1T (eX.l1.c YK K c5 c6 c7 c8 c9 c10 c11 c12).1 (eX.l1.c YK K c5 c6 c7 c8 c9 c10 c11 c12).2 c1 c2 c3 R k v4) (by kernel_rfl) (fun k=>by kernel_rfl) (fun k=>by kernel_rfl)
end Go.Proofs.YtcomnjodjijcmaaGreat.R
namespace Go.Proofs.YtcomnjodjijcmaaGreat.M
noncomputable section
set_option linter.unusedVariables false
set_option linter.unusedSimpArgs false
open Go.RowKit Go.Proofs.YtcomnjodjijcmaaGreatW.dA Go.Proofs.YtcomnjodjijcmaaGreatW.dX
def gh0 (W:World):Gh:={ ow:=fun _=>none,pr:=fun b _=>b<W.heap.size,bx:=fun _=>0,lr:=fun _=>default,lv:=fun _=>False,av:=fun _=>undef }
theorem cp0 {W:World} {a:Addr} {v:Value} (h:W.cell? a=some v):kJ (gh0 W) W a v:=⟨h,by
  show a.block<W.heap.size;unfold World.cell? at h;cases hb:W.heap[a.block]? with
  | none=>rw [hb] at h;cases h
  | some _=>exact (Array.getElem?_eq_some_iff.1 hb).1⟩
theorem row0 {α:Type} {R R':α→List Value→Prop} {sz n:Nat} (hz:0<sz) {W:World} (hR:∀ x cs,R x cs→R' x cs) {A:Option Addr} {xs:List α} (h:kK R sz W A n xs):acr R' sz (kJ (gh0 W) W) A xs:=fun i x hx=>by
  obtain ⟨hl,_,h⟩:=h;have hi:0<n:=by have:=(List.getElem?_eq_some_iff.1 hx).1;omega
  obtain ⟨ad,rfl,h2⟩:=h hi;obtain ⟨c,hc,hr,hcell⟩:=h2 i x hx;have hs:ad.spot=none:=by
    obtain ⟨c0,hc0,_,hcell0⟩:=h2 0 _ (List.getElem?_eq_getElem (by omega));have:=hcell0 0 (c0[0]'(by omega)) (by simp);rw [Nat.zero_mul] at this;exact qE this
  obtain ⟨b,o,s⟩:=ad;obtain rfl:s=none:=hs;refine ⟨b,o,c,rfl,hR _ _ hr,hc,fun j v hv => ?_⟩;have:=hcell j v hv;rw [Addr.add_mid] at this;exact cp0 this
theorem sl0 {α:Type} {R R':α→List Value→Prop} {sz c:Nat} (hz:0<sz) {W:World} (hR:∀ x cs,R x cs→R' x cs) {A:Option Addr} {xs:List α} (hc:xs.length≤c) (h:kK R sz W A xs.length xs):SlR R' sz (kJ (gh0 W) W) xs (.slice A xs.length c):=⟨A,c,rfl,hc,row0 hz hR h⟩
theorem fm0 {W:World} (p c:Int) {A2:Option Addr} {c2:Nat} {core:List (List P.S42)} {A3:Option Addr} {c3:Nat} {odd:List P.S44} (h2:Kd.C (Kd.slice 42 P.k42) W A2 core.length core) (l2:core.length≤c2) (h3:Kd.C P.k44 W A3 odd.length odd) (l3:odd.length≤c3) :
    Ty.fm.R (kJ (gh0 W) W) ⟨p,c,core,odd⟩ [.int .i64 p,.int .i64 c,.slice A2 core.length c2,.slice A3 odd.length c3] :=
  ⟨_,_,rfl,sl0 (by decide) (fun x cs h=>by
    obtain ⟨A,k,rfl,hl,hk⟩:=h;exact ⟨_,rfl,sl0 (by decide) (fun x cs h=>P.yu h) hl hk⟩) l2 h2,sl0 (by decide) (fun x cs h=>by
    obtain ⟨A,k,rfl,hl,hk⟩:=P.acG h;exact ⟨_,rfl,sl0 (by decide) (fun x cs h=>P.yu h) hl hk⟩) l3 h3⟩
def ae1 (W:World):(ts:List Ty)→nE ts→List Value→Prop
  | [],_,[]=>True
  | t :: ts,a,v :: vs=>(∃ ws,t.R (kJ (gh0 W) W) a.1 ws∧VW t ws v)∧ae1 W ts a.2 vs
  | _,_,_=>False
theorem agd {W:World}:∀ {ts:List Ty} {a:nE ts} {vs:List Value},ae1 W ts a vs→(jT ts a).length=vs.length∧∀ (i:Nat) (x:AV) (v:Value),(jT ts a)[i]? = some x→vs[i]? = some v→∀ fr' i',AVR 0 (gh0 W) W fr' i' x v
  | [],_,[],_=>⟨rfl,fun i x v hx=>by simp [jT] at hx⟩
  | [],_,_ :: _,h=>h.elim
  | _ :: _,_,[],h=>h.elim
  | t :: ts,a,v :: vs,⟨⟨ws,h1,h2⟩,h3⟩=>by
    obtain ⟨q1,q2⟩:=agd h3;refine ⟨by simp [jT,q1],fun i x u hx hu fr' i' => ?_⟩;cases i with
    | zero =>
      simp [jT] at hx hu
      subst hx;subst hu;exact aeO _ t a.1 h1 h2
    | succ i=>exact q2 i x u (by simpa [jT] using hx) (by simpa using hu) fr' i'
theorem Ty.of_cells:(t:Ty)→(x:t.T)→t.of (t.cells x)=some x
  | .int k,x=>by simp [Ty.of,Ty.cells]
  | .bool,x=>rfl
  | .str,x=>rfl
  | .sp,x=>rfl
  | .gr,x=>by simp [Ty.of,Ty.cells,Cell.asL]
  | .fm,x=>by simp [Ty.of,Ty.cells,Cell.asL]
  | .ff,x=>rfl
  | .pr,x=>by simp [Ty.of,Ty.cells,Cell.asL]
  | .sl _ t,x=>by simp [Ty.of,Ty.cells,Cell.asL]
theorem agf (t:Ty) (x:t.T):rdP t (mkP t x)=some x:=by
  have h:=Ty.of_cells t x;cases t <;> simpa [mkP,rdP,Ty.cells,Ty.ag] using h
theorem wE:(ts:List Ty)→(a:nE ts)→nL ts (jT ts a)=some a
  | [],_=>rfl
  | t :: ts,a=>by
    simp only [jT,nL,agf,wE ts a.2];rfl
theorem abI {P:Program} {f:FuncId} {ts:List Ty} {F:nE ts→Option Bool} (h:jg P f (jd ts [.pl .bool] F).s) {W:World} {a:nE ts} {vs:List Value} (hR:ae1 W ts a vs) (hF:F a=some true) :
    Calls P f vs.toArray W fun e W'=>e=.returned (.bool true)∧Below W.heap.size W W':=by
  obtain ⟨fn,_,_,_,h⟩:=h;obtain ⟨q1,q2⟩:=agd hR;have hs:(jd ts [.pl .bool] F).s (jT ts a)=some (aat [.pl .bool] true):=by
    show ((nL ts (jT ts a)).map F).bind _=_;rw [wE];show (F a).map _=_;rw [hF];rfl
  refine (h 0 (gh0 W) W 0 0 _ _ _ ⟨fun b o hb=>hb,fun b ℓ hl=>by cases hl⟩ (by simpa using q1) (fun i x v hx hv=>q2 i x v hx (by simpa using hv)) hs).mono ?_;rintro e W' ⟨v,rfl,g',_,_,hE,hv⟩;refine ⟨?_,⟨hE.os,hE.tape,hE.output,hE.size,fun b hb=>(hE.far b hb (fun ℓ hl=>by cases hl)).1⟩⟩;have hv:v=.bool true∧_:=hv;rw [hv.1]
end
end Go.Proofs.YtcomnjodjijcmaaGreat.M
namespace Go.Proofs.YtcomnjodjijcmaaGreat.P
set_option linter.unusedVariables false
set_option linter.unusedSimpArgs false
open Go.RowKit
def SL (lo hi:Int):List Sp→Prop
  | []=>True
  | s :: r=>lo≤s.f0∧s.f0≤s.f1∧s.f1≤hi∧SL (s.f1+2) hi r
def wP (l:List Sp) (x:Int):Bool:=l.any fun s=>decide (s.f0≤x)&&decide (x≤s.f1)
theorem lI (s:Sp) (r:List Sp) (x:Int):wP (s :: r) x=((decide (s.f0≤x)&&decide (x≤s.f1)) || wP r x):=rfl
theorem wF {l:List Sp} {x:Int}:wP l x=true↔∃ s∈l,s.f0≤x∧x≤s.f1:=by simp [wP]
theorem SL.mono {lo lo' hi:Int} (h:lo'≤lo):∀ {l:List Sp},SL lo hi l→SL lo' hi l
  | [],_=>trivial
  | _ :: _,hs=>⟨by have:=hs.1;omega,hs.2⟩
theorem SL.low {lo hi:Int} {l:List Sp} (hs:SL lo hi l) {x:Int} (hx:x<lo):wP l x=false:=by
  induction l generalizing lo with
  | nil=>rfl
  | cons s r ih =>
    obtain ⟨h1,h2,h3,h4⟩:=hs;rw [lI,ih h4 (by omega)];have:¬ s.f0≤x:=by omega
    simp [this]
theorem SL.high {lo hi:Int} {l:List Sp} (hs:SL lo hi l) {x:Int} (hx:hi<x):wP l x=false:=by
  induction l generalizing lo with
  | nil=>rfl
  | cons s r ih =>
    obtain ⟨h1,h2,h3,h4⟩:=hs;rw [lI,ih h4];have:¬ x≤s.f1:=by omega
    simp [this]
theorem SL.ticks {lo hi:Int} {l:List Sp} (hs:SL lo hi l) {s:Sp} (h:s∈l):lo≤s.f0∧s.f0≤s.f1∧s.f1≤hi:=by
  induction l generalizing lo with
  | nil=>simp at h
  | cons t r ih =>
    obtain ⟨h1,h2,h3,h4⟩:=hs;rcases List.mem_cons.1 h with rfl | h
    · exact ⟨h1,h2,h3⟩
    · obtain ⟨a,b,c⟩:=ih h4 h
      exact ⟨by omega,b,c⟩
def Inv (hi:Int) (a:List Sp) (i:Bool) (p:Int):Prop :=
  match a,i with
  | [],i=>i=false
  | s :: r,true=>s.f0≤p∧p≤s.f1∧s.f1≤hi∧SL (s.f1+2) hi r
  | s :: r,false=>SL (p+1) hi (s :: r)
theorem nS {n:Int} (h1 : -9223372036854775808≤n) (h2:n≤9223372036854775807):wrap64 n=n:=by unfold wrap64;omega
theorem Inv.nxt {hi p:Int} {a:List Sp} {i:Bool} (h:Inv hi a i p) (hp : -4611686018427387904≤p) (hh:hi≤4611686018427387904) (hn:a≠[]):p<aek a i∧aek a i≤hi+1:=by
  match a,i,hn with
  | s :: r,true,_ =>
    obtain ⟨h1,h2,h3,h4⟩:=h;have hw:wrap64 (s.f1+1)=s.f1+1:=nS (by omega) (by omega);simp only [aek,hw];omega
  | s :: r,false,_ =>
    obtain ⟨h1,h2,h3,h4⟩:=h;simp only [aek];omega
theorem Inv.step {hi p t:Int} {a:List Sp} {i:Bool} (h:Inv hi a i p) (hp : -4611686018427387904≤p) (hh:hi≤4611686018427387904) (hpt:p<t) (ht:a≠[]→t≤aek a i) :
    Inv hi (aaT a i t).1 (aaT a i t).2 t∧(∀ x,t≤x→wP (aaT a i t).1 x=wP a x)∧(∀ x,p≤x→x<t→wP a x=i):=by
  match a,i with
  | [],i =>
    have:i=false:=h;subst this;exact ⟨rfl,fun _ _=>rfl,fun _ _ _=>rfl⟩
  | s :: r,true =>
    obtain ⟨h1,h2,h3,h4⟩:=h;have hw:wrap64 (s.f1+1)=s.f1+1:=nS (by omega) (by omega);have ht':=ht (by simp);simp only [aek,hw] at ht';have hin:∀ x,p≤x→x<t→wP (s :: r) x=true:=fun x a b=>by
      have c1:s.f0≤x:=by omega
      have c2:x≤s.f1:=by omega
      simp [lI,c1,c2]
    simp only [aaT,hw];by_cases e:s.f1+1=t
    · rw [if_pos e]
      refine ⟨?_,fun x hx => ?_,hin⟩
      · cases r with
        | nil=>rfl
        | cons u r=>exact SL.mono (by omega) h4
      · have:¬ x≤s.f1:=by omega
        simp [lI,this]
    · rw [if_neg e]
      exact ⟨⟨by omega,by omega,h3,h4⟩,fun _ _=>rfl,hin⟩
  | s :: r,false =>
    obtain ⟨h1,h2,h3,h4⟩:=h;have ht':=ht (by simp);simp only [aek] at ht';have hout:∀ x,p≤x→x<t→wP (s :: r) x=false:=fun x a b=>by
      have c1:¬ s.f0≤x:=by omega
      rw [lI,h4.low (by omega)];simp [c1]
    simp only [aaT];by_cases e:s.f0=t
    · rw [if_pos e]
      exact ⟨⟨by omega,by omega,h3,h4⟩,fun _ _=>rfl,hout⟩
    · rw [if_neg e]
      exact ⟨⟨by omega,h2,h3,h4⟩,fun _ _=>rfl,hout⟩
def ins:List Int→Int→List Int
  | [],x=>[x]
  | y :: r,x=>if y=x then y :: r else if y>x then x :: y :: r else y :: ins r x
end Go.Proofs.YtcomnjodjijcmaaGreat.P
namespace Go.Proofs.YtcomnjodjijcmaaGreat.P
set_option linter.unusedVariables false
set_option linter.unusedSimpArgs false
open Go.RowKit Go.ChangeShapes Go.WideShapes Go.Deep Go.Proofs.YtcomnjodjijcmaaGreatW.dA
def fits (n:Int):Prop:=(Lit.int .i64 n).wf=true
def rC (s:Sp):Prop:=fits s.f0∧fits s.f1
end Go.Proofs.YtcomnjodjijcmaaGreat.P
namespace Go.Proofs.YtcomnjodjijcmaaGreat.P
set_option linter.unusedVariables false
set_option linter.unusedSimpArgs false
open Go.RowKit Go.ChangeShapes Go.WideShapes Go.Deep Go.Proofs.YtcomnjodjijcmaaGreatW.dA Go.Proofs.YtcomnjodjijcmaaGreatW.eD
theorem aaP {cs:List Value} (h:cs.length=2):∃ a b,cs=[a,b]:=by
  match cs,h with
  | [a,b],_=>exact ⟨a,b,rfl⟩
theorem aaQ {cs:List Value} (h:cs.length=4):∃ a b c d,cs=[a,b,c,d]:=by
  match cs,h with
  | [a,b,c,d],_=>exact ⟨a,b,c,d,rfl⟩
theorem xR {T:Type} (k:Kd T) {H:Type} {enc:TypeId × Value→H} {w:World} {base:Nat} {held:Bool} {t e:TypeId} {fuel:Nat} {cs:List Value} {x:DataW H × List MemPlace}
    (ht:Tryz.prog.underlying t=some (.slice e)) (hn:Tryz.prog.cellsOf e=k.sz) (Q:T→Prop)
    (op:∀ fuel cs x,DataW.trod enc Tryz.prog w base (fun _=>true) held fuel e cs=some x→∃ v,k.K w v cs∧Q v)
    (h:DataW.trod enc Tryz.prog w base (fun _=>true) held fuel t cs=some x) :
    ∃ (a:Option Addr) (cap:Nat) (l:List T),cs=[.slice a l.length cap]∧l.length≤cap∧Kd.C k w a l.length l∧(∀ s∈l,Q s)∧l.length≤9223372036854775807:=by
  rcases open_slice ht h with ⟨hc,_⟩ | ⟨a,len,cap,m,n,D,Pl,hc,hb,hl,hm,hmm,hx,hi⟩
  · exact ⟨none,0,[],by rw [hc];rfl,Nat.le_refl _,⟨rfl,by simp,fun h=>absurd h (by simp)⟩,by simp,by simp⟩
  · have hlm:len≤m:=by rw [hmm];simpa using hl
    have hk:∀ i,i<len→∃ v cs',k.K w v cs'∧Q v∧∀ j u,cs'[j]? = some u→w.cell? (a.add (i*k.sz+j))=some u:=by
      intro i hi';obtain ⟨cs',h1,h2⟩:=hi i (by omega);rw [hn] at h1;obtain ⟨_,hlen,hcell⟩:=World.cells?_some h1;obtain ⟨v,v1,v2⟩:=op _ _ _ h2;refine ⟨v,cs',v1,v2,fun j u hu => ?_⟩;have hj:j<k.sz:=by rw [← hlen];exact (List.getElem?_eq_some_iff.1 hu).1
      have:=hcell j hj;rw [Deep.add_add] at this;rw [this,hu]
    have hmax:len≤9223372036854775807:=by unfold maxLen at hm;omega
    suffices key:∀ q,q≤len→∃ l:List T,l.length=q∧(∀ j s,l[j]? = some s→∃ cs',k.K w s cs'∧∀ i u,cs'[i]? = some u→w.cell? (a.add (j*k.sz+i))=some u)∧∀ s∈l,Q s by
      obtain ⟨l,rfl,hl2,hfit⟩:=key len (Nat.le_refl _);refine ⟨some a,cap,l,hc,hl,⟨rfl,hmax,fun _=>⟨a,rfl,fun j s hj => ?_⟩⟩,hfit,hmax⟩;obtain ⟨cs',g1,g2⟩:=hl2 j s hj;exact ⟨cs',k.kS g1,g1,g2⟩
    intro q;induction q with
    | zero=>exact fun _=>⟨[],rfl,fun j s h=>by simp at h,by simp⟩
    | succ q ih =>
      intro hk';obtain ⟨l,hl1,hl2,hl3⟩:=ih (by omega);obtain ⟨s,cs',h0,h1,h2⟩:=hk q (by omega);refine ⟨l++[s],by simp [hl1],fun j t hj => ?_,fun t ht => ?_⟩
      · by_cases hjk:j<l.length
        · rw [List.getElem?_append_left hjk] at hj;exact hl2 j t hj
        · rw [List.getElem?_append_right (by omega)] at hj
          have:j - l.length=0:=by
            by_cases e:j - l.length=0
            · exact e
            · rw [List.getElem?_eq_none (by simp;omega)] at hj;cases hj
          rw [this] at hj;simp at hj;subst hj;have:j=q:=by omega
          subst this;exact ⟨cs',h0,h2⟩
      · simp at ht
        rcases ht with ht | rfl
        · exact hl3 t ht
        · exact h1
section
variable {H:Type} {enc:TypeId × Value→H} {w:World} {base:Nat} {held:Bool} {fuel:Nat} {cs:List Value} {x:DataW H × List MemPlace}
theorem mJ (h:DataW.trod enc Tryz.prog w base (fun _=>true) held fuel 3 cs=some x):∃ n,cs=[.int .i64 n]∧fits n:=by
  obtain ⟨n,e0,_,w0⟩:=DataW.trod_int Tryz.underlying3 h;exact ⟨n,e0,w0⟩
theorem ae2 (h:DataW.trod enc Tryz.prog w base (fun _=>true) held fuel 42 cs=some x):∃ s:Sp,k42.K w s cs∧rC s:=by
  obtain ⟨xs,n,_,_,hl,hxs,hf⟩:=DataW.trod_struct Tryz.underlying42 h;have e9:Tryz.prog.cellsOf 42=2:=by kernel_rfl
  rw [e9] at hl;have hl2:cs.length=2:=hl;clear hl e9;obtain ⟨v0,v1,rfl⟩:=aaP hl2;have g0:DataW.trod enc Tryz.prog w base (fun _=>true) held n 3 (List.take (Tryz.prog.cellsOf 3) (List.drop 0 [v0,v1]))=xs[0]? := hf 0 _ rfl;rw [show Tryz.prog.cellsOf 3=1 by kernel_rfl] at g0;have g1:DataW.trod enc Tryz.prog w base (fun _=>true) held n 3 (List.take (Tryz.prog.cellsOf 3) (List.drop 1 [v0,v1]))=xs[1]? := hf 1 _ rfl;rw [show Tryz.prog.cellsOf 3=1 by kernel_rfl] at g1;cases hx0:xs[0]? with
  | none=>have:=List.getElem?_eq_none_iff.1 hx0;rw [hxs] at this;exact absurd this (by decide)
  | some y0 =>
    cases hx1:xs[1]? with
    | none=>have:=List.getElem?_eq_none_iff.1 hx1;rw [hxs] at this;exact absurd this (by decide)
    | some y1 =>
      rw [hx0] at g0;rw [hx1] at g1;obtain ⟨a,ea,wa⟩:=mJ g0;obtain ⟨b,eb,wb⟩:=mJ g1;have aa:[v0]=[.int .i64 a]:=ea;have eb':[v1]=[.int .i64 b]:=eb;injection aa with aa
      injection eb' with eb'
      subst aa eb';exact ⟨⟨a,b⟩,afH w ⟨a,b⟩,wa,wb⟩
theorem zh (h:DataW.trod enc Tryz.prog w base (fun _=>true) held fuel 37 cs=some x):∃ (a:Option Addr) (cap:Nat) (l:List Sp),cs=[.slice a l.length cap]∧l.length≤cap∧Kd.C k42 w a l.length l∧(∀ s∈l,rC s)∧l.length≤9223372036854775807 :=
  xR k42 Tryz.underlying37 (by kernel_rfl) rC (fun _ _ _ g=>ae2 g) h
theorem abJ (h:DataW.trod enc Tryz.prog w base (fun _=>true) held fuel 37 cs=some x):∃ l:List Sp,(Kd.slice 42 k42).K w l cs∧((∀ s∈l,rC s)∧l.length≤9223372036854775807):=by
  obtain ⟨a,cap,l,rfl,h1,h2,h3,h4⟩:=zh h;exact ⟨l,⟨a,cap,rfl,h1,h2⟩,h3,h4⟩
theorem abK (h:DataW.trod enc Tryz.prog w base (fun _=>true) held fuel 22 cs=some x):∃ (a:Option Addr) (cap:Nat) (l:List (List Sp)),cs=[.slice a l.length cap]∧l.length≤cap∧Kd.C (Kd.slice 42 k42) w a l.length l∧(∀ s∈l,(∀ z∈s,rC z)∧s.length≤9223372036854775807)∧l.length≤9223372036854775807 :=
  xR (Kd.slice 42 k42) Tryz.underlying22 (by kernel_rfl) _ (fun _ _ _ g=>abJ g) h
def zi (g:S44):Prop:=fits g.f0∧(∀ z∈g.f1,rC z)∧g.f1.length≤9223372036854775807
theorem ae3 (h:DataW.trod enc Tryz.prog w base (fun _=>true) held fuel 44 cs=some x):∃ g:S44,k44.K w g cs∧zi g:=by
  obtain ⟨xs,n,_,_,hl,hxs,hf⟩:=DataW.trod_struct Tryz.underlying44 h;have e9:Tryz.prog.cellsOf 44=2:=by kernel_rfl
  rw [e9] at hl;have hl2:cs.length=2:=hl;clear hl e9;obtain ⟨v0,v1,rfl⟩:=aaP hl2;have g0:DataW.trod enc Tryz.prog w base (fun _=>true) held n 3 (List.take (Tryz.prog.cellsOf 3) (List.drop 0 [v0,v1]))=xs[0]? := hf 0 _ rfl;rw [show Tryz.prog.cellsOf 3=1 by kernel_rfl] at g0;have g1:DataW.trod enc Tryz.prog w base (fun _=>true) held n 37 (List.take (Tryz.prog.cellsOf 37) (List.drop 1 [v0,v1]))=xs[1]? := hf 1 _ rfl;rw [show Tryz.prog.cellsOf 37=1 by kernel_rfl] at g1;cases hx0:xs[0]? with
  | none=>have:=List.getElem?_eq_none_iff.1 hx0;rw [hxs] at this;exact absurd this (by decide)
  | some y0 =>
    cases hx1:xs[1]? with
    | none=>have:=List.getElem?_eq_none_iff.1 hx1;rw [hxs] at this;exact absurd this (by decide)
    | some y1 =>
      rw [hx0] at g0;rw [hx1] at g1;obtain ⟨a,ea,wa⟩:=mJ g0;obtain ⟨b,cap,l,eb,l1,l2,l3,l4⟩:=zh g1;have aa:[v0]=[.int .i64 a]:=ea;have eb':[v1]=[.slice b l.length cap]:=eb;injection aa with aa
      injection eb' with eb'
      subst aa eb';exact ⟨⟨a,l⟩,afI w ⟨a,l⟩ l1 l2,wa,l3,l4⟩
theorem adp (h:DataW.trod enc Tryz.prog w base (fun _=>true) held fuel 23 cs=some x):∃ (a:Option Addr) (cap:Nat) (l:List S44),cs=[.slice a l.length cap]∧l.length≤cap∧Kd.C k44 w a l.length l∧(∀ s∈l,zi s)∧l.length≤9223372036854775807 :=
  xR k44 Tryz.underlying23 (by kernel_rfl) zi (fun _ _ _ g=>ae3 g) h
structure abL (p c:Int) (core:List (List Sp)) (odd:List S44):Prop where
  fp:fits p
  fc:fits c
  ahI:∀ l∈core,(∀ z∈l,rC z)∧l.length≤9223372036854775807
  aiI:∀ g∈odd,zi g
  lc:core.length≤9223372036854775807
  lo:odd.length≤9223372036854775807
set_option maxRecDepth 200000 in
theorem wG {b0:Nat} {v:Value} {d:DataW H} {ps:List MemPlace} (hv:Value.okWide Tryz.prog w .any b0 25 v) (h:DataW.Trod enc Tryz.prog w base (fun _=>true) held 25 v d ps) :
    ∃ (p c:Int) (A2:Option Addr) (c2:Nat) (core:List (List Sp)) (A3:Option Addr) (c3:Nat) (odd:List S44),v=.agg #[.int .i64 p,.int .i64 c,.slice A2 core.length c2,.slice A3 odd.length c3] ∧
      Kd.C (Kd.slice 42 k42) w A2 core.length core∧core.length≤c2∧Kd.C k44 w A3 odd.length odd∧odd.length≤c3∧abL p c core odd:=by
  have hq:=okWide_struct (P:=Tryz.prog) (w:=w) (r:=.any) (base:=b0) (t:=25) (v:=v) Tryz.underlying25;have hq2:=hq hv;obtain ⟨cs,rfl,hsz⟩:=hq2;obtain ⟨fuel,h⟩:=h;obtain ⟨xs,n,_,_,hl,hxs,hf⟩:=DataW.trod_struct Tryz.underlying25 h;have e9:Tryz.prog.cellsOf 25=4:=by kernel_rfl
  rw [e9] at hl;have hl2:cs.toList.length=4:=hl;clear hl e9;obtain ⟨l⟩:=cs;obtain ⟨v0,v1,v2,v3,rfl⟩:=aaQ hl2;have g0:DataW.trod enc Tryz.prog w base (fun _=>true) held n 3 (List.take (Tryz.prog.cellsOf 3) (List.drop 0 [v0,v1,v2,v3]))=xs[0]? := hf 0 _ rfl;rw [show Tryz.prog.cellsOf 3=1 by kernel_rfl] at g0;have g1:DataW.trod enc Tryz.prog w base (fun _=>true) held n 3 (List.take (Tryz.prog.cellsOf 3) (List.drop 1 [v0,v1,v2,v3]))=xs[1]? := hf 1 _ rfl;rw [show Tryz.prog.cellsOf 3=1 by kernel_rfl] at g1;have g2:DataW.trod enc Tryz.prog w base (fun _=>true) held n 22 (List.take (Tryz.prog.cellsOf 22) (List.drop 2 [v0,v1,v2,v3]))=xs[2]? := hf 2 _ rfl;rw [show Tryz.prog.cellsOf 22=1 by kernel_rfl] at g2;have g3:DataW.trod enc Tryz.prog w base (fun _=>true) held n 23 (List.take (Tryz.prog.cellsOf 23) (List.drop 3 [v0,v1,v2,v3]))=xs[3]? := hf 3 _ rfl;rw [show Tryz.prog.cellsOf 23=1 by kernel_rfl] at g3;have hx:∀ j,j<4→∃ y,xs[j]? = some y:=fun j hj=>⟨_,List.getElem?_eq_getElem (by rw [hxs];exact hj)⟩;obtain ⟨y0,e0⟩:=hx 0 (by omega);obtain ⟨y1,e1⟩:=hx 1 (by omega);obtain ⟨y2,e2⟩:=hx 2 (by omega);obtain ⟨y3,e3⟩:=hx 3 (by omega);rw [e0] at g0;rw [e1] at g1;rw [e2] at g2;rw [e3] at g3;obtain ⟨p,ep,wp⟩:=mJ g0;obtain ⟨c,ec,wc⟩:=mJ g1;obtain ⟨A2,c2,core,e2',l1,l2,l3,l4⟩:=abK g2;obtain ⟨A3,c3,odd,e3',m1,m2,m3,m4⟩:=adp g3;have ac:[v0]=[.int .i64 p]:=ep;have af:[v1]=[.int .i64 c]:=ec;have aa:[v2]=[.slice A2 core.length c2]:=e2';have ab:[v3]=[.slice A3 odd.length c3]:=e3';injection ac with ac
  injection af with af
  injection aa with aa
  injection ab with ab
  subst ac af aa ab;exact ⟨p,c,A2,c2,core,A3,c3,odd,rfl,l2,l1,m2,m1,⟨wp,wc,l3,m3,l4,m4⟩⟩
end
end Go.Proofs.YtcomnjodjijcmaaGreat.P
namespace Go.Proofs.YtcomnjodjijcmaaGreat.P
set_option linter.unusedVariables false
set_option linter.unusedSimpArgs false
open Go.RowKit Go.Proofs.YtcomnjodjijcmaaGreatW.dA Go.Proofs.YtcomnjodjijcmaaGreatW.eD
section
theorem agh (pre r:List Sp) (s:Sp):yw (pre++s :: r) (pre.length:Int)=s:=by simp [yw]
def slB (lo:Int):List Sp→Bool
  | []=>true
  | s :: r=>decide (lo≤s.f0)&&(decide (s.f0≤s.f1)&&(decide (s.f1≤1099511627776)&&slB (s.f1+2) r))
theorem nT {lo:Int} {l:List Sp}:slB lo l=true↔SL lo 1099511627776 l:=by
  induction l generalizing lo with
  | nil=>simp [slB,SL]
  | cons s r ih=>simp [slB,SL,ih]
end
section
end
section
def rY (l:List Sp):Int × Int × Bool :=
  match l.head?,l.getLast? with
  | some s,some z=>(s.f0,z.f1,true)
  | _,_=>(0,0,false)
def jE (a b:List Sp):Bool :=
  match a.getLast?,b.head? with
  | some z,some s=>decide (z.f1<s.f0)
  | _,_=>true
theorem SL.get {lo hi:Int} {l:List Sp} (h:SL lo hi l) (j:Nat) (hj:j<l.length):lo≤l[j].f0∧l[j].f0≤l[j].f1∧l[j].f1≤hi:=SL.ticks h (List.getElem_mem hj)
theorem ad2 (lo hi:Nat) (h:hi≤4611686018427387903) (hl:lo≤hi):wrap64 ((IntKind.u64.wrap (wrap64 ((lo:Int)+(hi:Int)))) / 2)=(((lo+hi) / 2:Nat):Int):=by
  rw [nS (n:=(lo:Int)+hi) (by omega) (by omega)];have:IntKind.u64.wrap ((lo:Int)+hi)=(lo:Int)+hi:=by
    simp only [IntKind.wrap,IntKind.bits,IntKind.signed];simp;omega
  rw [this,nS (by omega) (by omega)];omega
theorem SL.empty {lo hi:Int} {l:List Sp} (h:SL lo hi l):(∀ x,wP l x=false)→l=[]:=by
  intro hx;cases l with
  | nil=>rfl
  | cons s r=>have:=hx s.f0;rw [lI] at this;have h2:=h.2.1;simp [h2] at this
end
section
theorem SL.front {lo hi:Int} {p r:List Sp} (h:SL lo hi (p++r)):SL lo hi p:=by
  induction p generalizing lo with
  | nil=>trivial
  | cons s p ih=>exact ⟨h.1,h.2.1,h.2.2.1,ih h.2.2.2⟩
end
section
def fG (n:Int) (s:Sp):Sp:=⟨s.f0+n,s.f1+n⟩
def okT (x:Int):Bool:=decide (-1099511627776≤x)&&decide (x≤1099511627776)
def okM (n:Int) (s:Sp):Bool:=okT (s.f0+n)&&okT (s.f1+n)
def mK (n:Int) (l:List Sp):List Sp × Int:=if l.all (okM n) then (l.map (fG n),0) else ([],20)
theorem uw {x:Int}:okT x=true ↔ -1099511627776≤x∧x≤1099511627776:=by simp [okT]
theorem rD {n:Int} {s:Sp}:okM n s=true↔(-1099511627776≤s.f0+n∧s.f0+n≤1099511627776)∧(-1099511627776≤s.f1+n∧s.f1+n≤1099511627776):=by simp [okM,uw]
theorem SL.shift {lo hi:Int} (n:Int):∀ {l:List Sp} {lo:Int},SL lo hi l→SL (lo+n) (hi+n) (l.map (fG n))
  | [],_,_=>trivial
  | s :: r,lo,h=>by
    obtain ⟨h1,h2,h3,h4⟩:=h;refine ⟨by simp only [fG];omega,by simp only [fG];omega,by simp only [fG];omega,?_⟩;have:=SL.shift (lo:=lo) n h4;have e:(fG n s).f1+2=s.f1+2+n:=by simp only [fG];omega
    rw [e];exact this
theorem SL.within {lo' hi' hi:Int}:∀ {l:List Sp} {lo:Int},SL lo hi l→(∀ s∈l,lo'≤s.f0∧s.f1≤hi')→SL lo' hi' l
  | [],_,_,_=>trivial
  | s :: r,lo,h,hb=>by
    obtain ⟨h1,h2,h3,h4⟩:=h;refine ⟨(hb s (by simp)).1,h2,(hb s (by simp)).2,?_⟩;refine SL.within h4 (fun t ht=>⟨?_,(hb t (by simp [ht])).2⟩)
    exact (SL.ticks h4 ht).1
theorem SL.moved {n:Int} {l:List Sp} (h:SL (-1099511627776) 1099511627776 l) (ho:l.all (okM n)=true):SL (-1099511627776) 1099511627776 (l.map (fG n)):=by
  refine SL.within (SL.shift (lo:=0) n h) (fun s hs => ?_)
  obtain ⟨t,ht,rfl⟩:=List.mem_map.1 hs;have:=rD.1 (List.all_eq_true.1 ho t ht);simp only [fG];omega
theorem aav (n:Int) (l:List Sp):(l.map (fG n)).map (fG (-n))=l:=by
  induction l with
  | nil=>rfl
  | cons s r ih =>
    rw [List.map_cons,List.map_cons,ih];congr 1;cases s;simp only [fG];congr 1 <;> omega
end
section
end
section
abbrev Gn:=S44
def lu:List Sp→Int
  | []=>0
  | s :: _=>s.f0
def lQ:List Sp→Int
  | []=>0
  | [s]=>s.f1
  | _ :: t :: r=>lQ (t :: r)
theorem abM (l:List Sp) (s:Sp):lQ (l++[s])=s.f1:=by
  induction l with
  | nil=>rfl
  | cons a r ih=>cases r with
    | nil=>rfl
    | cons b r=>exact ih
theorem SL.ends {lo hi:Int}:∀ {l:List Sp},SL lo hi l→l≠[]→lo≤lu l∧lu l≤lQ l∧lQ l≤hi
  | [],_,h=>absurd rfl h
  | [s],⟨a,b,c,_⟩,_=>⟨a,b,c⟩
  | s :: t :: r,⟨a,b,c,d⟩,_=>by
    obtain ⟨e1,e2,e3⟩:=SL.ends d (by simp);simp only [lu,lQ] at *;exact ⟨a,by omega,e3⟩
theorem SL.between {lo hi:Int} {l:List Sp} (h:SL lo hi l) {s:Sp} (hs:s∈l):lu l≤s.f0∧s.f1≤lQ l:=by
  induction l generalizing lo with
  | nil=>simp at hs
  | cons a r ih =>
    obtain ⟨h1,h2,h3,h4⟩:=h;cases r with
    | nil=>simp at hs;subst hs;exact ⟨Int.le_refl _,Int.le_refl _⟩
    | cons b r =>
      have e:=h4.ends (by simp);rcases List.mem_cons.1 hs with rfl | hs
      · simp only [lu,lQ] at *;omega
      · have:=ih h4 hs;simp only [lu,lQ] at *;omega
theorem SL.rE {lo hi:Int} {l:List Sp} (h:SL lo hi l) {x:Int} (hx:wP l x=true):lu l≤x∧x≤lQ l:=by
  obtain ⟨s,hs,h1,h2⟩:=wF.1 hx;have:=h.between hs;omega
theorem o9 (n:Int) (l:List Sp) (h:l≠[]):lu (l.map (fG n))=lu l+n:=by
  cases l with
  | nil=>exact absurd rfl h
  | cons s r=>rfl
theorem pz (n:Int):∀ (l:List Sp),l≠[]→lQ (l.map (fG n))=lQ l+n
  | [],h=>absurd rfl h
  | [s],_=>rfl
  | s :: t :: r,_=>pz n (t :: r) (by simp)
theorem SL.oF {n:Int} {l:List Sp} (h:SL (-1099511627776) 1099511627776 l) (hn:l≠[]):l.all (okM n)=true↔(-1099511627776≤lu l+n∧lQ l+n≤1099511627776):=by
  constructor
  · intro ha
    have hm:=h.moved ha;have:=hm.ends (by simpa using hn);rw [o9 n l hn,pz n l hn] at this;exact ⟨this.1,this.2.2⟩
  · intro ⟨h1,h2⟩
    rw [List.all_eq_true];intro s hs;have:=h.between hs;have:=h.ticks hs;rw [rD];omega
def jh:List Gn→Int→Option (List Sp)
  | [],_=>none
  | g :: r,i=>if g.f0=i then some g.f1 else jh r i
theorem jF {odd:List Gn} {i:Int} {l:List Sp} (h:jh odd i=some l):∃ g∈odd,g.f0=i∧g.f1=l:=by
  induction odd with
  | nil=>cases h
  | cons g r ih =>
    simp only [jh] at h;split at h
    · cases h;exact ⟨g,by simp,‹_›,rfl⟩
    · obtain ⟨g',h1,h2⟩:=ih h;exact ⟨g',by simp [h1],h2⟩
theorem jv {odd:List Gn} {i:Int}:jh odd i=none↔∀ g∈odd,g.f0≠i:=by
  induction odd with
  | nil=>simp [jh]
  | cons g r ih =>
    simp only [jh,List.mem_cons,forall_eq_or_imp];by_cases h:g.f0=i
    · simp [h]
    · simp [h,ih]
theorem lJ {odd:List Gn} (hu:odd.Pairwise (fun a b=>a.f0<b.f0)) {g:Gn} (hg:g∈odd):jh odd g.f0=some g.f1:=by
  induction odd with
  | nil=>simp at hg
  | cons a r ih =>
    obtain ⟨h1,h2⟩:=List.pairwise_cons.1 hu;simp only [jh];rcases List.mem_cons.1 hg with rfl | hg
    · rw [if_pos rfl]
    · have:=h1 g hg;rw [if_neg (by omega)];exact ih h2 hg
def gJ (c:Int) (core:List (List Sp)) (i:Int):List Sp:=if c=0 then [] else core.getD (i % c).toNat []
def fs (c:Int) (core:List (List Sp)) (odd:List Gn) (i:Int):List Sp:=match jh odd i with | some l=>l | none=>gJ c core i
def fb (p c:Int) (odd:List Gn) (i:Int):Int:=match jh odd i with | some _=>0 | none=>i / c*p
def gLo (p c:Int) (core:List (List Sp)) (odd:List Gn) (i:Int):Int:=lu (fs c core odd i)+fb p c odd i
def gHi (p c:Int) (core:List (List Sp)) (odd:List Gn) (i:Int):Int:=lQ (fs c core odd i)+fb p c odd i
def inR (i:Int):Prop := -1099511627776≤i∧i≤1099511627776
instance (i:Int):Decidable (inR i):=by unfold inR;exact inferInstance
structure SF (p c:Int) (core:List (List Sp)) (odd:List Gn):Prop where
  hc:c=core.length
  hp0:0≤p
  hp1:p≤1099511627776
  hz:c=0↔p=0
  hcore:∀ l∈core,SL (-1099511627776) 1099511627776 l
  hodd:∀ g∈odd,SL (-1099511627776) 1099511627776 g.f1
  hidx:∀ g∈odd,inR g.f0
  hup:odd.Pairwise (fun a b=>a.f0<b.f0)
  hl:core.length≤6000
  hlo:odd.length≤6000
structure TF (p:Int) (core:List (List Sp)):Prop where
  ta:core.Pairwise (fun a b=>a≠[]→b≠[]→lQ a<lu b)
  tb:∀ a∈core,∀ b∈core,a≠[]→b≠[]→lQ a<lu b+p
variable {p c:Int} {core:List (List Sp)} {odd:List Gn}
theorem SF.abN (h:SF p c core odd):SF p c core []:=⟨h.hc,h.hp0,h.hp1,h.hz,h.hcore,by simp,by simp,List.Pairwise.nil,h.hl,by simp⟩
theorem SF.jM (h:SF p c core odd) (i:Int) (hc:c≠0):gJ c core i∈core:=by
  have h0:=h.hc;have h1:0≤i % c:=Int.emod_nonneg _ hc;have h2:i % c<c:=Int.emod_lt_of_pos _ (by omega);have h3:(i % c).toNat<core.length:=by omega
  unfold gJ;rw [if_neg hc,List.getD_eq_getElem?_getD,List.getElem?_eq_getElem h3];exact List.getElem_mem h3
theorem SF.abO (h:SF p c core odd) (i:Int):SL (-1099511627776) 1099511627776 (gJ c core i):=by
  by_cases hc:c=0
  · unfold gJ;rw [if_pos hc];trivial
  · exact h.hcore _ (h.jM i hc)
theorem SF.uy (h:SF p c core odd) (i:Int):SL (-1099511627776) 1099511627776 (fs c core odd i):=by
  unfold fs;cases ho:jh odd i with
  | none=>exact h.abO i
  | some l=>obtain ⟨g,hg,_,rfl⟩:=jF ho;exact h.hodd g hg
theorem SF.adq (h:SF p c core odd) {i:Int} (hn:fs c core odd i≠[]):gLo p c core odd i≤gHi p c core odd i:=by
  have:=(h.uy i).ends hn;unfold gLo gHi;omega
theorem zk (h:SF p c core odd) (t:TF p core) {i k:Int} (hik:i<k) (hi:gJ c core i≠[]) (hk:gJ c core k≠[]):lQ (gJ c core i)+i / c*p<lu (gJ c core k)+k / c*p:=by
  have hc:c≠0:=by intro e;apply hi;unfold gJ;rw [if_pos e]
  have h0:=h.hc;have hcp:0<c:=by omega
  have mi:=h.jM i hc;have mk:=h.jM k hc;have i1:0≤i % c:=Int.emod_nonneg _ hc;have i2:i % c<c:=Int.emod_lt_of_pos _ hcp;have k1:0≤k % c:=Int.emod_nonneg _ hc;have k2:k % c<c:=Int.emod_lt_of_pos _ hcp;have ei:=Int.mul_ediv_add_emod i c;have ek:=Int.mul_ediv_add_emod k c;rcases Int.lt_trichotomy (i / c) (k / c) with hq | hq | hq
  · have hb:=t.tb _ mi _ mk hi hk
    have:i / c*p+p≤k / c*p:=by
      have h1:(i / c+1)*p≤(k / c)*p:=Int.mul_le_mul_of_nonneg_right (by omega) h.hp0;rw [Int.add_mul,Int.one_mul] at h1;exact h1
    omega
  · rw [hq] at ei ⊢
    have hr:i % c<k % c:=by omega
    have hlt:(i % c).toNat<(k % c).toNat:=by omega
    have hkl:(k % c).toNat<core.length:=by omega
    have hil:(i % c).toNat<core.length:=by omega
    have e1:gJ c core i=core[(i % c).toNat]:=by unfold gJ;rw [if_neg hc,List.getD_eq_getElem?_getD,List.getElem?_eq_getElem hil];rfl
    have e2:gJ c core k=core[(k % c).toNat]:=by unfold gJ;rw [if_neg hc,List.getD_eq_getElem?_getD,List.getElem?_eq_getElem hkl];rfl
    have:=List.pairwise_iff_getElem.1 t.ta _ _ hil hkl hlt (by rw [← e1];exact hi) (by rw [← e2];exact hk);rw [← e1,← e2] at this;omega
  · exfalso
    have h1:c*(k / c)+c≤c*(i / c):=by
      have:c*(k / c+1)≤c*(i / c):=Int.mul_le_mul_of_nonneg_left (by omega) (by omega);rw [Int.mul_add,Int.mul_one] at this;exact this
    omega
def gap (c:Int) (core:List (List Sp)) (odd:List Gn) (i k:Int):Prop:=∀ m,i<m→m<k→fs c core odd m=[]
structure BF (p c:Int) (core:List (List Sp)) (odd:List Gn):Prop where
  up:∀ g∈odd,g.f1≠[]→∀ k,g.f0<k→inR k→fs c core odd k≠[]→gap c core odd g.f0 k→gHi p c core odd g.f0<gLo p c core odd k
  dn:∀ g∈odd,g.f1≠[]→∀ k,k<g.f0→inR k→fs c core odd k≠[]→gap c core odd k g.f0→gHi p c core odd k<gLo p c core odd g.f0
theorem adr (h:SF p c core odd) (t:TF p core) (b:BF p c core odd):∀ (n:Nat) (i k:Int),(k - i).toNat≤n→i<k→inR i→inR k→fs c core odd i≠[]→fs c core odd k≠[]→gHi p c core odd i<gLo p c core odd k:=by
  intro n;induction n with
  | zero=>intro i k hn hik;omega
  | succ n ih =>
    intro i k hn hik ri rk hi hk;by_cases hg:gap c core odd i k
    · cases hoi:jh odd i with
      | some l =>
        obtain ⟨g,hg1,rfl,rfl⟩:=jF hoi;exact b.up g hg1 (by unfold fs at hi;rw [hoi] at hi;exact hi) k hik rk hk hg
      | none =>
        cases hok:jh odd k with
        | some l =>
          obtain ⟨g,hg1,rfl,rfl⟩:=jF hok;exact b.dn g hg1 (by unfold fs at hk;rw [hok] at hk;exact hk) i hik ri hi hg
        | none =>
          have:=zk h t hik (by unfold fs at hi;rw [hoi] at hi;exact hi) (by unfold fs at hk;rw [hok] at hk;exact hk);unfold gHi gLo fs fb;rw [hoi,hok];exact this
    · have:∃ m,i<m∧m<k∧fs c core odd m≠[]:=Classical.byContradiction fun hx=>hg (fun m h1 h2=>Classical.byContradiction fun h3=>hx ⟨m,h1,h2,h3⟩)
      obtain ⟨m,h1,h2,h3⟩:=this;unfold inR at ri rk;have a1:=ih i m (by omega) h1 ri ⟨by omega,by omega⟩ hi h3;have a2:=ih m k (by omega) h2 ⟨by omega,by omega⟩ rk h3 hk;have a3:=h.adq h3;omega
structure FOK (p c:Int) (core:List (List Sp)) (odd:List Gn):Prop where
  s:SF p c core odd
  t:TF p core
  ord:∀ i k,i<k→inR i→inR k→fs c core odd i≠[]→fs c core odd k≠[]→gHi p c core odd i<gLo p c core odd k
theorem FOK.of (h:SF p c core odd) (t:TF p core) (b:BF p c core odd):FOK p c core odd:=⟨h,t,fun i k hik=>adr h t b _ i k (Nat.le_refl _) hik⟩
theorem ads (h:SF p c core odd) (t:TF p core) {i k:Int} (hik:i<k) (hi:fs c core [] i≠[]) (hk:fs c core [] k≠[]):gHi p c core [] i<gLo p c core [] k:=zk h t hik hi hk
end
section
variable {p c:Int} {core:List (List Sp)} {odd:List Gn}
theorem rdG (l:List Gn) (j:Nat) (hj:j<l.length):yx l (j:Int)=l[j]:=by simp [yx,hj]
structure agi (odd:List Gn) (i:Int) (r:Int × Bool):Prop where
  low:0≤r.1
  high:r.1≤odd.length
  below:∀ j (hj:j<odd.length),(j:Int)<r.1→odd[j].f0<i
  above:∀ j (hj:j<odd.length),r.1≤(j:Int)→i≤odd[j].f0
  is:r.2=true→∃ (hj:r.1.toNat<odd.length),odd[r.1.toNat].f0=i
  no:r.2=false→jh odd i=none
theorem xS {l:List Gn} (h:l.Pairwise (fun a b=>a.f0<b.f0)) {i j:Nat} (hj:j<l.length) (hij:i<j):(l[i]'(by omega)).f0<l[j].f0:=List.pairwise_iff_getElem.1 h i j (by omega) hj hij
end
section
theorem wrap_u64 (n:Int):IntKind.u64.wrap n=n % 18446744073709551616:=by simp [IntKind.wrap,IntKind.bits,IntKind.signed]
theorem wraps_u64 (n:Int) (h₀:0≤n) (h₁:n<2 ^ 64):IntKind.u64.wrap n=n:=by rw [wrap_u64];omega
theorem ae4 (x:Int) (h0:0≤x) (h1:x<18446744073709551616):Go.bits .and .u64 x 4294967295=x % 4294967296:=bits_mask .u64 64 (by decide) wraps_u64 32 (by decide) x h0 h1
theorem zl (u v:Int) (hu:0≤u) (hu':u≤4294967295) (hv:0≤v) (hv':v≤4294967295):0≤u*v∧u*v≤18446744065119617025:=by
  refine ⟨Int.mul_nonneg hu hv,?_⟩;have:=Int.mul_le_mul hu' hv' hv (show (0:Int)≤4294967295 by omega);omega
def zm (a b:Int):Int × Int:=if -9223372036854775808≤a*b∧a*b≤9223372036854775807 then (a*b,0) else (0,10)
end
section
variable {p c:Int} {core:List (List Sp)} {odd:List Gn}
theorem rdL (l:List (List Sp)) (j:Nat) (hj:j<l.length):acF l (j:Int)=l[j]:=by simp [acF,hj]
theorem aix (l:List Gn) (x:Int) (hj:x.toNat<l.length):yx l x=l[x.toNat]:=by simp [yx,hj]
theorem aiy (l:List (List Sp)) (x:Int) (hj:x.toNat<l.length):acF l x=l[x.toNat]:=by simp [acF,hj]
def pE (p c:Int) (core:List (List Sp)) (odd:List Gn) (i:Int):List Sp × Int × Int :=
  match jh odd i with | some l=>(l,0,0) | none=>if c=0 then ([],0,0) else (gJ c core i,zm (i / c) p)
theorem wH (i:Int):(pE p c core odd i).1=fs c core odd i:=by
  unfold pE fs;cases jh odd i with
  | some l=>rfl
  | none =>
      by_cases hc:c=0
      · simp [hc,gJ]
      · simp [hc]
def jJ (p c:Int) (core:List (List Sp)) (odd:List Gn) (i:Int):List Sp × Int :=
  if inR i then (if fs c core odd i=[] then ([],0) else mK (fb p c odd i) (fs c core odd i)) else ([],20)
def zn (c:Int) (core:List (List Sp)) (odd:List Gn) (a:Int) (r:Int × Bool):Prop :=
  (r.2=true→a≤r.1∧inR r.1∧fs c core odd r.1≠[]∧∀ m,a≤m→m<r.1→fs c core odd m=[])∧(r.2=false→r.1=0∧∀ m,a≤m→inR m→fs c core odd m=[])
def zo (c:Int) (core:List (List Sp)) (odd:List Gn) (a:Int) (r:Int × Bool):Prop :=
  (r.2=true→r.1≤a∧inR r.1∧fs c core odd r.1≠[]∧∀ m,m≤a→r.1<m→fs c core odd m=[])∧(r.2=false→r.1=0∧∀ m,m≤a→inR m→fs c core odd m=[])
theorem uz (h:SF p c core odd) (hb:∀ l∈core,l=[]) {m:Int} (hm:fs c core odd m≠[]):∃ j,∃ hj:j<odd.length,odd[j].f0=m∧odd[j].f1≠[]:=by
  unfold fs at hm;cases ho:jh odd m with
  | some l =>
    obtain ⟨g,hg,e1,e2⟩:=jF ho;obtain ⟨j,hj,rfl⟩:=List.getElem_of_mem hg;exact ⟨j,hj,e1,by rw [ho] at hm;rw [e2];exact hm⟩
  | none =>
    rw [ho] at hm;by_cases hc:c=0
    · exact absurd (by simp [gJ,hc]) hm
    · exact absurd (hb _ (h.jM m hc)) hm
theorem zq (h:SF p c core odd) {j:Nat} (hj:j<odd.length):fs c core odd odd[j].f0=odd[j].f1:=by
  unfold fs;rw [lJ h.hup (List.getElem_mem hj)]
end
section
variable {p c:Int} {core:List (List Sp)} {odd:List Gn}
theorem ahJ (a b:Int):mn a b=min a b:=by unfold mn;split <;> omega
theorem ahK (a b:Int):mx a b=max a b:=by unfold mx;split <;> omega
theorem SL.len {lo hi:Int}:∀ {l:List Sp} {lo:Int},SL lo hi l→(l.length:Int)≤max 0 (hi - lo+1)
  | [],_,_=>by simp;omega
  | s :: r,lo,⟨h1,h2,h3,h4⟩=>by
    have:=SL.len (lo:=lo) h4;simp only [List.length_cons];omega
theorem SL.uD {l:List Sp} (h:SL (-1099511627776) 1099511627776 l):l.length≤4611686018427387903:=by have:=SL.len (lo:=0) h;omega
theorem uE:∀ (l:List Sp),l≠[]→∃ z,l.getLast? = some z∧z.f1=lQ l
  | [],h=>absurd rfl h
  | [s],_=>⟨s,rfl,rfl⟩
  | s :: t :: r,_=>by
    obtain ⟨z,h1,h2⟩:=uE (t :: r) (by simp);exact ⟨z,by rw [List.getLast?_cons_cons];exact h1,h2⟩
theorem rF (a b:List Sp):jE a b=true↔(a≠[]→b≠[]→lQ a<lu b):=by
  by_cases ha:a=[]
  · subst ha;simp [jE]
  · obtain ⟨z,h1,h2⟩:=uE a ha
    cases b with
    | nil=>unfold jE;rw [h1];simp
    | cons s r=>unfold jE;rw [h1];simp [lu,h2,ha]
theorem adt (l:List Sp):rY l=if l=[] then (0,0,false) else (lu l,lQ l,true):=by
  by_cases ha:l=[]
  · subst ha;rfl
  · obtain ⟨z,h1,h2⟩:=uE l ha
    rw [if_neg ha];cases l with
    | nil=>exact absurd rfl ha
    | cons s r=>unfold rY;rw [h1];simp [lu,h2]
end
section
variable {p c:Int} {core:List (List Sp)} {odd:List Gn}
structure MF (core:List (List Sp)) (odd:List Gn):Prop where
  mc:∀ l∈core,l.length≤9223372036854775807
  mo:∀ g∈odd,g.f1.length≤9223372036854775807
end
section
variable {p c:Int} {core:List (List Sp)} {odd:List Gn}
def neL (l:List (List Sp)):List (List Sp):=l.filter (fun x=>decide (x≠[]))
theorem xU {l:List (List Sp)} {x:List Sp}:x∈neL l↔x∈l∧x≠[]:=by simp [neL]
theorem adu (l:List (List Sp)) (x:List Sp):neL (l++[x])=if x=[] then neL l else neL l++[x]:=by
  unfold neL;rw [List.filter_append];by_cases h:x=[]
  · simp [h]
  · simp [h]
theorem agj (x:List Sp) (hx:x≠[]) (hl:x.length≤4611686018427387903):wrap64 ((x.length:Int) - 1)=(x.length:Int) - 1∧0≤(x.length:Int) - 1∧(yw x ((x.length:Int) - 1)).f1=lQ x:=by
  rcases List.eq_nil_or_concat x with rfl | ⟨o,z,rfl⟩
  · exact absurd rfl hx
  · rw [List.concat_eq_append] at *
    have e:((o++[z]).length:Int) - 1=(o.length:Int):=by simp
    refine ⟨nS (by simp only [List.length_append,List.length_singleton];omega) (by omega),by rw [e];omega,?_⟩;rw [e,abM];have:=agh o [] z;rw [this]
theorem agk (x:List Sp) (hx:x≠[]):0<x.length∧(yw x 0).f0=lu x:=by
  cases x with
  | nil=>exact absurd rfl hx
  | cons s r=>exact ⟨by simp,rfl⟩
end
section
variable {p c:Int} {core:List (List Sp)} {odd:List Gn}
structure Ex (p c:Int) (core:List (List Sp)) (odd:List Gn) (i:Int):Prop where
  r:inR i
  n:fs c core odd i≠[]
  lo : -1099511627776≤gLo p c core odd i
  hi:gHi p c core odd i≤1099511627776
def gT (p c:Int) (core:List (List Sp)) (odd:List Gn) (i:Int):List Sp:=(fs c core odd i).map (fG (fb p c odd i))
theorem SF.pF (h:SF p c core odd) {i:Int} (e:Ex p c core odd i):jJ p c core odd i=(gT p c core odd i,0):=by
  unfold jJ;rw [if_pos e.r,if_neg e.n];unfold mK;have e1:=e.lo;have e2:=e.hi;rw [if_pos (((h.uy i).oF e.n).2 ⟨e1,e2⟩)];rfl
theorem SF.abP (h:SF p c core odd) {i:Int} (hn:fs c core odd i≠[]) (e:¬ Ex p c core odd i):jJ p c core odd i=([],20):=by
  unfold jJ;by_cases hr:inR i
  · rw [if_pos hr,if_neg hn]
    unfold mK;rw [if_neg];intro ha;have:=((h.uy i).oF hn).1 ha;exact e ⟨hr,hn,this.1,this.2⟩
  · rw [if_neg hr]
theorem SF.uF (h:SF p c core odd) {i:Int} (hr:inR i) (hn:fs c core odd i≠[]) (e:(jJ p c core odd i).2=0):Ex p c core odd i:=by
  refine Classical.byContradiction fun hx => ?_;rw [h.abP hn hx] at e;cases e
theorem kW {i:Int} (hn:fs c core odd i≠[]):gT p c core odd i≠[]∧lu (gT p c core odd i)=gLo p c core odd i∧lQ (gT p c core odd i)=gHi p c core odd i :=
  ⟨by unfold gT;simpa using hn,o9 _ _ hn,pz _ _ hn⟩
theorem SF.ahL (h:SF p c core odd) {i:Int} (e:Ex p c core odd i):SL (-1099511627776) 1099511627776 (gT p c core odd i):=(h.uy i).moved (((h.uy i).oF e.n).2 ⟨e.lo,e.hi⟩)
end
section
variable {p c:Int} {core:List (List Sp)} {odd:List Gn}
theorem ahM (q c r:Int) (h0:0≤r) (h1:r<c):(q*c+r) / c=q∧(q*c+r) % c=r:=by
  have hc:c≠0:=by omega
  constructor
  · rw [Int.add_comm,Int.add_mul_ediv_right _ _ hc,Int.ediv_eq_zero_of_lt h0 h1];omega
  · rw [Int.add_comm,Int.add_mul_emod_self_right,Int.emod_eq_of_lt h0 h1]
theorem abQ (h:SF p c core odd) (q:Int) (j:Nat) (hj:j<core.length):gJ c core (q*c+j)=core[j]∧(q*c+j) / c=q:=by
  have h0:=h.hc;obtain ⟨e1,e2⟩:=ahM q c j (by omega) (by omega);refine ⟨?_,e1⟩;unfold gJ;rw [if_neg (by omega),e2,List.getD_eq_getElem?_getD,Int.toNat_natCast,List.getElem?_eq_getElem hj];rfl
theorem uG (h:SF p c core odd) {m:Int} (hm:gJ c core m≠[]):0<c∧0<p∧∃ j:Nat,∃ hj:j<core.length,m % c=(j:Int)∧gJ c core m=core[j]:=by
  have hc:c≠0:=by intro e;apply hm;unfold gJ;rw [if_pos e]
  have h0:=h.hc;have h1:0≤m % c:=Int.emod_nonneg _ hc;have h2:m % c<c:=Int.emod_lt_of_pos _ (by omega);have h3:(m % c).toNat<core.length:=by omega
  have hp:p≠0:=fun e=>hc (h.hz.2 e);have hp0:=h.hp0;refine ⟨by omega,by omega,(m % c).toNat,h3,by omega,?_⟩;unfold gJ;rw [if_neg hc,List.getD_eq_getElem?_getD,List.getElem?_eq_getElem h3];rfl
structure PlU (p c:Int) (core:List (List Sp)) (T:Int) (r:Int × Bool):Prop where
  y:r.2=true→gJ c core r.1≠[]∧T≤gHi p c core [] r.1∧∀ m,gJ c core m≠[]→T≤gHi p c core [] m→r.1≤m
  n:r.2=false→∀ m,gJ c core m=[]
  lo : -4611686018427387904≤r.1
  hi:r.1≤4611686018427387904
end
section
variable {p c:Int} {core:List (List Sp)} {odd:List Gn}
structure PnU (p c:Int) (core:List (List Sp)) (odd:List Gn) (T:Int) (r:Int × Bool):Prop where
  y:r.2=true→Ex p c core [] r.1∧jh odd r.1=none∧T≤gHi p c core [] r.1∧∀ m,Ex p c core [] m→jh odd m=none→T≤gHi p c core [] m→r.1≤m
  n:r.2=false→r.1=0∧∀ m,Ex p c core [] m→jh odd m=none→¬ T≤gHi p c core [] m
structure FrU (p c:Int) (core:List (List Sp)) (odd:List Gn) (T:Int) (r:Int × Bool):Prop where
  y:r.2=true→Ex p c core odd r.1∧T≤gHi p c core odd r.1∧∀ m,Ex p c core odd m→T≤gHi p c core odd m→r.1≤m
  n:r.2=false→r.1=0∧∀ m,Ex p c core odd m→¬ T≤gHi p c core odd m
def cl (t:Int):Int:=mx (mn t 1099511627777) (-1099511627777)
end
section
variable {p c:Int} {core:List (List Sp)} {odd:List Gn}
structure PlD (p c:Int) (core:List (List Sp)) (T:Int) (r:Int × Bool):Prop where
  y:r.2=true→gJ c core r.1≠[]∧gLo p c core [] r.1≤T∧∀ m,gJ c core m≠[]→gLo p c core [] m≤T→m≤r.1
  n:r.2=false→∀ m,gJ c core m=[]
  lo : -4611686018427387904≤r.1
  hi:r.1≤4611686018427387904
structure PnD (p c:Int) (core:List (List Sp)) (odd:List Gn) (T:Int) (r:Int × Bool):Prop where
  y:r.2=true→Ex p c core [] r.1∧jh odd r.1=none∧gLo p c core [] r.1≤T∧∀ m,Ex p c core [] m→jh odd m=none→gLo p c core [] m≤T→m≤r.1
  n:r.2=false→r.1=0∧∀ m,Ex p c core [] m→jh odd m=none→¬ gLo p c core [] m≤T
structure TlD (p c:Int) (core:List (List Sp)) (odd:List Gn) (T:Int) (r:Int × Bool):Prop where
  y:r.2=true→Ex p c core odd r.1∧gLo p c core odd r.1≤T∧∀ m,Ex p c core odd m→gLo p c core odd m≤T→m≤r.1
  n:r.2=false→r.1=0∧∀ m,Ex p c core odd m→¬ gLo p c core odd m≤T
end
section
variable {p c:Int} {core:List (List Sp)} {odd:List Gn}
theorem abL.mf (f:abL p c core odd):MF core odd:=⟨fun l hl=>(f.ahI l hl).2,fun g hg=>(f.aiI g hg).2.2⟩
structure AtS (p c:Int) (core:List (List Sp)) (odd:List Gn) (t:Int) (r:Int × Bool):Prop where
  y:r.2=true→Ex p c core odd r.1∧wP (gT p c core odd r.1) t=true
  n:r.2=false→r.1=0∧∀ m,Ex p c core odd m→wP (gT p c core odd m) t=false
end
section
variable {p c:Int} {core:List (List Sp)} {odd:List Gn}
structure BtS (p c:Int) (core:List (List Sp)) (odd:List Gn) (h0 h1:Int) (xs:List (Int × List Sp)):Prop where
  up:xs.Pairwise (fun x y=>x.1<y.1)
  mem:∀ x∈xs,Ex p c core odd x.1∧x.2=gT p c core odd x.1∧h0≤gHi p c core odd x.1∧gLo p c core odd x.1≤h1
  all:∀ j,Ex p c core odd j→h0≤gHi p c core odd j→gLo p c core odd j≤h1→(j,gT p c core odd j)∈xs
end
section
variable {p c:Int} {core:List (List Sp)} {odd:List Gn}
structure Few (p c:Int) (core:List (List Sp)) (odd:List Gn):Prop where
  ok:FOK p c core odd
  lc:core.length≤12
  lo:odd.length≤8
  hc:∀ l∈core,l.length≤60
  ho:∀ g∈odd,g.f1.length≤60
theorem Few.fs (w:Few p c core odd) (i:Int):(fs c core odd i).length≤60:=by
  unfold P.fs;cases ho:jh odd i with
  | some l =>
    obtain ⟨g,hg,_,rfl⟩:=jF ho;exact w.ho g hg
  | none =>
    show (gJ c core i).length≤60;by_cases hc:c=0
    · unfold gJ;rw [if_pos hc];simp
    · exact w.hc _ (w.ok.s.jM i hc)
end
section
variable {p c:Int} {core:List (List Sp)} {odd:List Gn}
structure aiL (p:Int) (core:List (List Sp)) (odd:List Gn):Prop where
  hc:∀ l∈core,l≠[] → -100≤lu l∧lQ l≤100
  ho:∀ g∈odd,-100≤g.f0∧g.f0≤100
  hp:p≤200
theorem Few.c12 (w:Few p c core odd) (hc:c≠0):1≤c∧c≤12∧1≤p:=by
  have h1:=w.ok.s.hc;have h2:=w.lc;have h3:=w.ok.s.hz;have h4:=w.ok.s.hp0;have h5:p≠0:=fun q=>hc (h3.2 q);omega
end
end Go.Proofs.YtcomnjodjijcmaaGreat.P
