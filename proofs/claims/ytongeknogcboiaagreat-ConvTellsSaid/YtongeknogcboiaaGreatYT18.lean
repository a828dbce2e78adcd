/- Lemmas for laws of chapter 7: what the functions that they reach compute. No condition of its own. -/
import Derived.Test.YtongeknogcboiaaGreatYT9
import Derived.Test.YtongeknogcboiaaGreatYT12
import Derived.Test.YtongeknogcboiaaGreatYT13
import Derived.Test.YtongeknogcboiaaGreatYT14
import Derived.Test.YtongeknogcboiaaGreatYT15
import Derived.Test.YtongeknogcboiaaGreatYT16
import Derived.Test.YtongeknogcboiaaGreatYT17
import Derived.Test.YtongeknogcboiaaGreatYT8
import Derived.Test.YtongeknogcboiaaGreatYT2
import Derived.Deep.SlicePairs
import Derived.ChangeArms
import Derived.ProofKit
import Derived.Deep.Slices
namespace Go.Proofs.YtongeknogcboiaaGreat.R
open M Go.RowKit Go.Proofs.YtongeknogcboiaaGreatW.gq Go.Proofs.YtongeknogcboiaaGreatW.iE Go.Proofs.YtongeknogcboiaaGreatW.iR
set_option linter.unusedVariables false
noncomputable def fZ.m (k:Nat):Sm:=ko [.fm,.fm,(.int .i16)] [.pl .bool] (fun a=>fZ.f k a.1.f0 a.1.f1 a.1.f2 a.1.f3 a.2.1.f0 a.2.1.f1 a.2.1.f2 a.2.1.f3 a.2.2.1)
noncomputable def fZ.l1.p:PS:=⟨nOs 3++[.one (.bp 0 0),.one (.bp 1 0),nO,nO,.one (.bp 2 0),.one (.bp 3 0),.one (.i .i64)]++nOs 147,[.box 25 [.i .i64,.i .i64,.s (.sl 41 .sp),.s .gr],.box 25 [.i .i64,.i .i64,.s (.sl 41 .sp),.s .gr],.box 25 [.i .i64,.i .i64,.s (.sl 41 .sp),.s .gr],.box 25 [.i .i64,.i .i64,.s (.sl 41 .sp),.s .gr],.box 3 [.i .i64],.box 4 [.b],.box 3 [.i .i64],.box 3 [.i .i64],.box 4 [.b],.box 3 [.i .i64],.box 3 [.i .i64],.box 4 [.b],.box 41 [.i .i64,.i .i64],.box 41 [.i .i64,.i .i64]]⟩
noncomputable def fZ.l1.c {γ:Type} (YK:HdK γ) (K:gJ→St→Option γ)  := ((fun y1 y2 y3 y4 y5 y6 y7 y8 y9 aa ab ac y13 af ah ai aj ak al y20 y21 y22 y23 y24 y25 am y27 y28 y29 ao=>K .ret ((⟨nOs 6++[.one (.lb false)]++nOs 150,[.box 25 [.i .i64,.i .i64,.s (.sl 41 .sp),.s .gr],.box 25 [.i .i64,.i .i64,.s (.sl 41 .sp),.s .gr],.box 25 [.i .i64,.i .i64,.s (.sl 41 .sp),.s .gr],.box 25 [.i .i64,.i .i64,.s (.sl 41 .sp),.s .gr],.box 3 [.i .i64],.box 4 [.b],.box 3 [.i .i64],.box 3 [.i .i64],.box 4 [.b],.box 3 [.i .i64],.box 3 [.i .i64],.box 4 [.b],.box 41 [.i .i64,.i .i64],.box 41 [.i .i64,.i .i64],.box 3 [.i .i64],.box 4 [.b]]⟩:PS).mk' [.i y1,.i y2,.l (.sl 41 .sp) y3,.l .gr y4,.i y5,.i y6,.l (.sl 41 .sp) y7,.l .gr y8,.i y9,.i aa,.l (.sl 41 .sp) ab,.l .gr ac,.i y13,.i af,.l (.sl 41 .sp) ah,.l .gr ai,.i aj,.b ak,.i al,.i y20,.b y21,.i y22,.i y23,.b y24,.i y25,.i am,.i y27,.i y28,.i y29,.b ao])),(fun y1 y2 y3 y4 y5 y6 y7 y8 y9 aa ab ac y13 af ah ai aj ak al y20 y21 y22 y23 y24 y25 am y27 y28 y29 ao y31 y32 ap=>K .ret ((⟨nOs 6++[.one (.b)]++nOs 150,[.box 25 [.i .i64,.i .i64,.s (.sl 41 .sp),.s .gr],.box 25 [.i .i64,.i .i64,.s (.sl 41 .sp),.s .gr],.box 25 [.i .i64,.i .i64,.s (.sl 41 .sp),.s .gr],.box 25 [.i .i64,.i .i64,.s (.sl 41 .sp),.s .gr],.box 3 [.i .i64],.box 4 [.b],.box 3 [.i .i64],.box 3 [.i .i64],.box 4 [.b],.box 3 [.i .i64],.box 3 [.i .i64],.box 4 [.b],.box 41 [.i .i64,.i .i64],.box 41 [.i .i64,.i .i64],.box 3 [.i .i64],.box 4 [.b],.box 3 [.i .i64],.box 4 [.b]]⟩:PS).mk' [.b y1,.i y2,.i y3,.l (.sl 41 .sp) y4,.l .gr y5,.i y6,.i y7,.l (.sl 41 .sp) y8,.l .gr y9,.i aa,.i ab,.l (.sl 41 .sp) ac,.l .gr y13,.i af,.i ah,.l (.sl 41 .sp) ai,.l .gr aj,.i ak,.b al,.i y20,.i y21,.b y22,.i y23,.i y24,.b y25,.i am,.i y27,.i y28,.i y29,.i ao,.b y31,.i y32,.b ap])),(fun y1 y2 y3 y4 y5 y6 y7 y8 y9 aa ab ac y13 af ah ai aj ak al y20 y21 y22 y23 y24 y25 am y27 y28 y29 ao y31 y32=>K .ret ((⟨nOs 6++[.one (.lb false)]++nOs 150,[.box 25 [.i .i64,.i .i64,.s (.sl 41 .sp),.s .gr],.box 25 [.i .i64,.i .i64,.s (.sl 41 .sp),.s .gr],.box 25 [.i .i64,.i .i64,.s (.sl 41 .sp),.s .gr],.box 25 [.i .i64,.i .i64,.s (.sl 41 .sp),.s .gr],.box 3 [.i .i64],.box 4 [.b],.box 3 [.i .i64],.box 3 [.i .i64],.box 4 [.b],.box 3 [.i .i64],.box 3 [.i .i64],.box 4 [.b],.box 41 [.i .i64,.i .i64],.box 41 [.i .i64,.i .i64],.box 3 [.i .i64],.box 4 [.b],.box 3 [.i .i64],.box 4 [.b]]⟩:PS).mk' [.i y1,.i y2,.l (.sl 41 .sp) y3,.l .gr y4,.i y5,.i y6,.l (.sl 41 .sp) y7,.l .gr y8,.i y9,.i aa,.l (.sl 41 .sp) ab,.l .gr ac,.i y13,.i af,.l (.sl 41 .sp) ah,.l .gr ai,.i aj,.b ak,.i al,.i y20,.b y21,.i y22,.i y23,.b y24,.i y25,.i am,.i y27,.i y28,.i y29,.b ao,.i y31,.b y32])))
noncomputable def fZ.l1.g {γ:Type} (YK:HdK γ) (k:Nat) (K:gJ→St→Option γ):List Lf→Option γ
  | [.i v1,.i v2,.i v3,.l (.sl 41 .sp) v4,.l .gr v5,.i v6,.i v7,.l (.sl 41 .sp) v8,.l .gr v9,.i v10,.i v11,.l (.sl 41 .sp) v12,.l .gr v13,.i v14,.i v15,.l (.sl 41 .sp) v16,.l .gr v17,.i v18,.b v19,.i v20,.i v21,.b v22,.i v23,.i v24,.b v25,.i v26,.i v27,.i v28,.i v29]=>let q:=fZ.l1.c YK K;fZ.l1 q.1 q.2.1 q.2.2 k v1 v2 v3 v4 v5 v6 v7 v8 v9 v10 v11 v12 v13 v14 v15 v16 v17 v18 v19 v20 v21 v22 v23 v24 v25 v26 v27 v28 v29
  | _=>none
noncomputable def fZ.l0.p:PS:=⟨[nO,nO,.one (.i .i16),.one (.bp 0 0),.one (.bp 1 0)]++nOs 152,[.box 25 [.i .i64,.i .i64,.s (.sl 41 .sp),.s .gr],.box 25 [.i .i64,.i .i64,.s (.sl 41 .sp),.s .gr]]⟩
noncomputable def fZ.l0.c {γ:Type} (YK:HdK γ) (K:gJ→St→Option γ)  := ((fun y1 y2 y3 y4 y5 y6 y7 y8 y9 aa ab ac y13 af ah ai aj ak=>K .ret ((⟨nOs 6++[.one (.lb false)]++nOs 150,[.box 25 [.i .i64,.i .i64,.s (.sl 41 .sp),.s .gr],.box 25 [.i .i64,.i .i64,.s (.sl 41 .sp),.s .gr],.box 25 [.i .i64,.i .i64,.s (.sl 41 .sp),.s .gr],.box 25 [.i .i64,.i .i64,.s (.sl 41 .sp),.s .gr],.box 3 [.i .i64],.box 4 [.b]]⟩:PS).mk' [.i y1,.i y2,.l (.sl 41 .sp) y3,.l .gr y4,.i y5,.i y6,.l (.sl 41 .sp) y7,.l .gr y8,.i y9,.i aa,.l (.sl 41 .sp) ab,.l .gr ac,.i y13,.i af,.l (.sl 41 .sp) ah,.l .gr ai,.i aj,.b ak])),(fun y1 y2 y3 y4 y5 y6 y7 y8 y9 aa ab ac y13 af ah ai aj ak al y20 y21=>K .ret ((⟨nOs 6++[.one (.lb false)]++nOs 150,[.box 25 [.i .i64,.i .i64,.s (.sl 41 .sp),.s .gr],.box 25 [.i .i64,.i .i64,.s (.sl 41 .sp),.s .gr],.box 25 [.i .i64,.i .i64,.s (.sl 41 .sp),.s .gr],.box 25 [.i .i64,.i .i64,.s (.sl 41 .sp),.s .gr],.box 3 [.i .i64],.box 4 [.b],.box 3 [.i .i64],.box 3 [.i .i64],.box 4 [.b]]⟩:PS).mk' [.i y1,.i y2,.l (.sl 41 .sp) y3,.l .gr y4,.i y5,.i y6,.l (.sl 41 .sp) y7,.l .gr y8,.i y9,.i aa,.l (.sl 41 .sp) ab,.l .gr ac,.i y13,.i af,.l (.sl 41 .sp) ah,.l .gr ai,.i aj,.b ak,.i al,.i y20,.b y21])),(fun y1 y2 y3 y4 y5 y6 y7 y8 y9 aa ab ac y13 af ah ai aj ak al y20 y21 y22 y23 y24=>K .ret ((⟨nOs 6++[.one (.lb false)]++nOs 150,[.box 25 [.i .i64,.i .i64,.s (.sl 41 .sp),.s .gr],.box 25 [.i .i64,.i .i64,.s (.sl 41 .sp),.s .gr],.box 25 [.i .i64,.i .i64,.s (.sl 41 .sp),.s .gr],.box 25 [.i .i64,.i .i64,.s (.sl 41 .sp),.s .gr],.box 3 [.i .i64],.box 4 [.b],.box 3 [.i .i64],.box 3 [.i .i64],.box 4 [.b],.box 3 [.i .i64],.box 3 [.i .i64],.box 4 [.b]]⟩:PS).mk' [.i y1,.i y2,.l (.sl 41 .sp) y3,.l .gr y4,.i y5,.i y6,.l (.sl 41 .sp) y7,.l .gr y8,.i y9,.i aa,.l (.sl 41 .sp) ab,.l .gr ac,.i y13,.i af,.l (.sl 41 .sp) ah,.l .gr ai,.i aj,.b ak,.i al,.i y20,.b y21,.i y22,.i y23,.b y24])),(fun y1 y2 y3 y4 y5 y6 y7 y8 y9 aa ab ac y13 af ah ai aj ak al y20 y21 y22 y23 y24 y25 am y27 y28=>K .ret ((⟨nOs 6++[.one (.lb false)]++nOs 150,[.box 25 [.i .i64,.i .i64,.s (.sl 41 .sp),.s .gr],.box 25 [.i .i64,.i .i64,.s (.sl 41 .sp),.s .gr],.box 25 [.i .i64,.i .i64,.s (.sl 41 .sp),.s .gr],.box 25 [.i .i64,.i .i64,.s (.sl 41 .sp),.s .gr],.box 3 [.i .i64],.box 4 [.b],.box 3 [.i .i64],.box 3 [.i .i64],.box 4 [.b],.box 3 [.i .i64],.box 3 [.i .i64],.box 4 [.b],.box 41 [.i .i64,.i .i64],.box 41 [.i .i64,.i .i64]]⟩:PS).mk' [.i y1,.i y2,.l (.sl 41 .sp) y3,.l .gr y4,.i y5,.i y6,.l (.sl 41 .sp) y7,.l .gr y8,.i y9,.i aa,.l (.sl 41 .sp) ab,.l .gr ac,.i y13,.i af,.l (.sl 41 .sp) ah,.l .gr ai,.i aj,.b ak,.i al,.i y20,.b y21,.i y22,.i y23,.b y24,.i y25,.i am,.i y27,.i y28])),(fun y1 y2 y3 y4 y5 y6 y7 y8 y9 aa ab ac y13 af ah ai aj ak al y20 y21 y22 y23 y24 y25 am y27 y28 y29 ao=>K .ret ((⟨nOs 6++[.one (.lb false)]++nOs 150,[.box 25 [.i .i64,.i .i64,.s (.sl 41 .sp),.s .gr],.box 25 [.i .i64,.i .i64,.s (.sl 41 .sp),.s .gr],.box 25 [.i .i64,.i .i64,.s (.sl 41 .sp),.s .gr],.box 25 [.i .i64,.i .i64,.s (.sl 41 .sp),.s .gr],.box 3 [.i .i64],.box 4 [.b],.box 3 [.i .i64],.box 3 [.i .i64],.box 4 [.b],.box 3 [.i .i64],.box 3 [.i .i64],.box 4 [.b],.box 41 [.i .i64,.i .i64],.box 41 [.i .i64,.i .i64],.box 3 [.i .i64],.box 4 [.b]]⟩:PS).mk' [.i y1,.i y2,.l (.sl 41 .sp) y3,.l .gr y4,.i y5,.i y6,.l (.sl 41 .sp) y7,.l .gr y8,.i y9,.i aa,.l (.sl 41 .sp) ab,.l .gr ac,.i y13,.i af,.l (.sl 41 .sp) ah,.l .gr ai,.i aj,.b ak,.i al,.i y20,.b y21,.i y22,.i y23,.b y24,.i y25,.i am,.i y27,.i y28,.i y29,.b ao])),(fun y1 y2 y3 y4 y5 y6 y7 y8 y9 aa ab ac y13 af ah ai aj ak al y20 y21 y22 y23 y24 y25 am y27 y28 y29 ao y31 y32 ap=>K .ret ((⟨nOs 6++[.one (.b)]++nOs 150,[.box 25 [.i .i64,.i .i64,.s (.sl 41 .sp),.s .gr],.box 25 [.i .i64,.i .i64,.s (.sl 41 .sp),.s .gr],.box 25 [.i .i64,.i .i64,.s (.sl 41 .sp),.s .gr],.box 25 [.i .i64,.i .i64,.s (.sl 41 .sp),.s .gr],.box 3 [.i .i64],.box 4 [.b],.box 3 [.i .i64],.box 3 [.i .i64],.box 4 [.b],.box 3 [.i .i64],.box 3 [.i .i64],.box 4 [.b],.box 41 [.i .i64,.i .i64],.box 41 [.i .i64,.i .i64],.box 3 [.i .i64],.box 4 [.b],.box 3 [.i .i64],.box 4 [.b]]⟩:PS).mk' [.b y1,.i y2,.i y3,.l (.sl 41 .sp) y4,.l .gr y5,.i y6,.i y7,.l (.sl 41 .sp) y8,.l .gr y9,.i aa,.i ab,.l (.sl 41 .sp) ac,.l .gr y13,.i af,.i ah,.l (.sl 41 .sp) ai,.l .gr aj,.i ak,.b al,.i y20,.i y21,.b y22,.i y23,.i y24,.b y25,.i am,.i y27,.i y28,.i y29,.i ao,.b y31,.i y32,.b ap])),(fun y1 y2 y3 y4 y5 y6 y7 y8 y9 aa ab ac y13 af ah ai aj ak al y20 y21 y22 y23 y24 y25 am y27 y28 y29 ao y31 y32=>K .ret ((⟨nOs 6++[.one (.lb false)]++nOs 150,[.box 25 [.i .i64,.i .i64,.s (.sl 41 .sp),.s .gr],.box 25 [.i .i64,.i .i64,.s (.sl 41 .sp),.s .gr],.box 25 [.i .i64,.i .i64,.s (.sl 41 .sp),.s .gr],.box 25 [.i .i64,.i .i64,.s (.sl 41 .sp),.s .gr],.box 3 [.i .i64],.box 4 [.b],.box 3 [.i .i64],.box 3 [.i .i64],.box 4 [.b],.box 3 [.i .i64],.box 3 [.i .i64],.box 4 [.b],.box 41 [.i .i64,.i .i64],.box 41 [.i .i64,.i .i64],.box 3 [.i .i64],.box 4 [.b],.box 3 [.i .i64],.box 4 [.b]]⟩:PS).mk' [.i y1,.i y2,.l (.sl 41 .sp) y3,.l .gr y4,.i y5,.i y6,.l (.sl 41 .sp) y7,.l .gr y8,.i y9,.i aa,.l (.sl 41 .sp) ab,.l .gr ac,.i y13,.i af,.l (.sl 41 .sp) ah,.l .gr ai,.i aj,.b ak,.i al,.i y20,.b y21,.i y22,.i y23,.b y24,.i y25,.i am,.i y27,.i y28,.i y29,.b ao,.i y31,.b y32])))
noncomputable def fZ.l0.g {γ:Type} (YK:HdK γ) (k:Nat) (K:gJ→St→Option γ):List Lf→Option γ
  | [.i v1,.i v2,.i v3,.l (.sl 41 .sp) v4,.l .gr v5,.i v6,.i v7,.l (.sl 41 .sp) v8,.l .gr v9]=>let q:=fZ.l0.c YK K;fZ.l0 q.1 q.2.1 q.2.2.1 q.2.2.2.1 q.2.2.2.2.1 q.2.2.2.2.2.1 q.2.2.2.2.2.2 k v1 v2 v3 v4 v5 v6 v7 v8 v9
  | _=>none
noncomputable def fZ.C {γ:Type}:Ctx γ:=mkC (fun k=>mkE [(10,gQ.m k),(12,jJ.m k),(13,fG.m k),(15,fH.m k),(21,fQ.m k),(22,fO.m k),(23,gK.m k),(24,gM.m k),(25,jr.m k),(26,jO.m k),(27,jv.m k),(28,jY.m k),(29,jy.m k),(30,jZ.m k),(31,fF.m k)] [17,18]) [(5,Tryz.f5),(17,Tryz.f17),(18,Tryz.f18),(43,Tryz.f43),(44,Tryz.f44)] [(5,mkA [] [(1000010,[2,3,4]),(1000055,[3,4,7,8,9])] [(1000010,[6]),(1000055,[6])] []),(17,mkA [] [] [] []),(18,mkA [] [] [] []),(43,mkA [] [] [] []),(44,mkA [] [] [] [])] [⟨1,5,1000055,jN [(fZ.l1.p,fZ.l1.g)]⟩,⟨1,5,1000010,jN [(fZ.l0.p,fZ.l0.g)]⟩] []
theorem fZ.l1.eq {γ:Type} (YK:HdK γ) (rl:Option Nat) (K:gJ→St→Option γ) (k:Nat) (v1:Int) (v2:Int) (v3:Int) (v4:List (List P.S41)) (v5:List P.S43) (v6:Int) (v7:Int) (v8:List (List P.S41)) (v9:List P.S43) (v10:Int) (v11:Int) (v12:List (List P.S41)) (v13:List P.S43) (v14:Int) (v15:Int) (v16:List (List P.S41)) (v17:List P.S43) (v18:Int) (v19:Bool) (v20:Int) (v21:Int) (v22:Bool) (v23:Int) (v24:Int) (v25:Bool) (v26:Int) (v27:Int) (v28:Int) (v29:Int):fZ.C.lK 1 5 1000055 Tryz.f5 YK rl 14 k (fZ.l1.p.mk' [.i v1,.i v2,.i v3,.l (.sl 41 .sp) v4,.l .gr v5,.i v6,.i v7,.l (.sl 41 .sp) v8,.l .gr v9,.i v10,.i v11,.l (.sl 41 .sp) v12,.l .gr v13,.i v14,.i v15,.l (.sl 41 .sp) v16,.l .gr v17,.i v18,.b v19,.i v20,.i v21,.b v22,.i v23,.i v24,.b v25,.i v26,.i v27,.i v28,.i v29]) K=fZ.l1.g YK k K [.i v1,.i v2,.i v3,.l (.sl 41 .sp) v4,.l .gr v5,.i v6,.i v7,.l (.sl 41 .sp) v8,.l .gr v9,.i v10,.i v11,.l (.sl 41 .sp) v12,.l .gr v13,.i v14,.i v15,.l (.sl 41 .sp) v16,.l .gr v17,.i v18,.b v19,.i v20,.i v21,.b v22,.i v23,.i v24,.b v25,.i v26,.i v27,.i v28,.i v29]:=by kernel_rfl
theorem fZ.l0.eq {γ:Type} (YK:HdK γ) (rl:Option Nat) (K:gJ→St→Option γ) (k:Nat) (v1:Int) (v2:Int) (v3:Int) (v4:List (List P.S41)) (v5:List P.S43) (v6:Int) (v7:Int) (v8:List (List P.S41)) (v9:List P.S43):fZ.C.lK 1 5 1000010 Tryz.f5 YK rl 2 k (fZ.l0.p.mk' [.i v1,.i v2,.i v3,.l (.sl 41 .sp) v4,.l .gr v5,.i v6,.i v7,.l (.sl 41 .sp) v8,.l .gr v9]) K=fZ.l0.g YK k K [.i v1,.i v2,.i v3,.l (.sl 41 .sp) v4,.l .gr v5,.i v6,.i v7,.l (.sl 41 .sp) v8,.l .gr v9]:=by kernel_rfl
theorem fZ.iN {γ:Type}:(fZ.C (γ:=γ)).Ok:=⟨(all_cons (fun k=>by kernel_rfl) (all_cons (fun k=>by kernel_rfl) (all_cons (fun k=>by kernel_rfl) (all_cons (fun k=>by kernel_rfl) (all_cons (fun k=>by kernel_rfl) all_nil))))),(all_cons (by kernel_rfl) (all_cons (by kernel_rfl) (all_cons (by kernel_rfl) (all_cons (by kernel_rfl) (all_cons (by kernel_rfl) all_nil))))),all_nil⟩
theorem fZ.e0 {γ:Type}:jE (fZ.C (γ:=γ)) ⟨1,5,1000055,jN [(fZ.l1.p,fZ.l1.g)]⟩:=fZ.iN.lS Tryz.f5 [] (by kernel_rfl) (by kernel_rfl) (by kernel_rfl) (all_cons jR (all_cons jR all_nil)) (all_cons (fun YK rl k ls K v hv=>(show fZ.l1.g YK k K ls=some v→_ from fun hv=>by
  unfold fZ.l1.g at hv;split at hv
  · exact (fZ.l1.eq YK rl K k _ _ _ _ _ _ _ _ _ _ _ _ _ _ _ _ _ _ _ _ _ _ _ _ _ _ _ _ _).trans hv
  · cases hv) hv) all_nil)
theorem fZ.e1 {γ:Type}:jE (fZ.C (γ:=γ)) ⟨1,5,1000010,jN [(fZ.l0.p,fZ.l0.g)]⟩:=fZ.iN.lS Tryz.f5 [1000055] (by kernel_rfl) (by kernel_rfl) (by kernel_rfl) (all_cons (fun _=>fZ.e0) (all_cons jR all_nil)) (all_cons (fun YK rl k ls K v hv=>(show fZ.l0.g YK k K ls=some v→_ from fun hv=>by
  unfold fZ.l0.g at hv;split at hv
  · exact (fZ.l0.eq YK rl K k _ _ _ _ _ _ _ _ _).trans hv
  · cases hv) hv) all_nil)
theorem fZ.ok (k:Nat):j5 Tryz.prog 5 (fZ.m k).s:=okW fZ.iN 1 Tryz.f5 k (all_cons ⟨Tryz.f17,Tryz.func17,by kernel_rfl⟩ (all_cons ⟨Tryz.f18,Tryz.func18,by kernel_rfl⟩ all_nil)) (fun k=>all_cons (gQ.ok k) (all_cons (jJ.ok k) (all_cons (fG.ok k) (all_cons (fH.ok k) (all_cons (fQ.ok k) (all_cons (fO.ok k) (all_cons (gK.ok k) (all_cons (gM.ok k) (all_cons (jr.ok k) (all_cons (jO.ok k) (all_cons (jv.ok k) (all_cons (jY.ok k) (all_cons (jy.ok k) (all_cons (jZ.ok k) (all_cons (fF.ok k) (all_nil)))))))))))))))) (all_cons ⟨Tryz.func5,by kernel_rfl⟩ (all_cons ⟨Tryz.func17,by kernel_rfl⟩ (all_cons ⟨Tryz.func18,by kernel_rfl⟩ (all_cons ⟨Tryz.func43,by kernel_rfl⟩ (all_cons ⟨Tryz.func44,by kernel_rfl⟩ all_nil))))) (all_cons fZ.e0 (all_cons fZ.e1 all_nil)) (by kernel_rfl) (by kernel_rfl) (fun a=>by kernel_rfl)
noncomputable def fK.l2.p:PS:=⟨[nO,nO,.one (.bp 0 0)]++nOs 148,[.box 25 [.i .i64,.i .i64,.s (.sl 41 .sp),.s .gr],.box 41 [.i .i64,.i .i64]]⟩
noncomputable def fK.l2.c {γ:Type} (YK:HdK γ) (K:gJ→St→Option γ)  := ((fun y1 y2 y3 y4 y5 y6 y7=>K .ret ((⟨nOs 4++[.one (.b)]++nOs 146,[.box 25 [.i .i64,.i .i64,.s (.sl 41 .sp),.s .gr],.box 41 [.i .i64,.i .i64]]⟩:PS).mk' [.b y1,.i y2,.i y3,.l (.sl 41 .sp) y4,.l .gr y5,.i y6,.i y7])),(fun y1 y2 y3 y4 y5 y6=>K .ret ((⟨nOs 4++[.one (.lb false)]++nOs 146,[.box 25 [.i .i64,.i .i64,.s (.sl 41 .sp),.s .gr],.box 41 [.i .i64,.i .i64]]⟩:PS).mk' [.i y1,.i y2,.l (.sl 41 .sp) y3,.l .gr y4,.i y5,.i y6])))
noncomputable def fK.l2.g {γ:Type} (YK:HdK γ) (k:Nat) (K:gJ→St→Option γ):List Lf→Option γ
  | [.i v1,.i v2,.l (.sl 41 .sp) v3,.l .gr v4,.i v5,.i v6]=>let q:=fK.l2.c YK K;fK.l2 q.1 q.2 k v1 v2 v3 v4 v5 v6
  | _=>none
noncomputable def fK.l1.p:PS:=⟨[nO,.one (.i .i64),.one (.bp 0 0)]++nOs 148,[.box 25 [.i .i64,.i .i64,.s (.sl 41 .sp),.s .gr],.box 41 [.i .i64,.i .i64]]⟩
noncomputable def fK.l1.c {γ:Type} (YK:HdK γ) (K:gJ→St→Option γ)  := ((fun y1 y2 y3 y4 y5 y6=>K .ret ((⟨nOs 4++[.one (.lb false)]++nOs 146,[.box 25 [.i .i64,.i .i64,.s (.sl 41 .sp),.s .gr],.box 41 [.i .i64,.i .i64]]⟩:PS).mk' [.i y1,.i y2,.l (.sl 41 .sp) y3,.l .gr y4,.i y5,.i y6])),(fun y1 y2 y3 y4 y5 y6 y7=>K .ret ((⟨nOs 4++[.one (.b)]++nOs 146,[.box 25 [.i .i64,.i .i64,.s (.sl 41 .sp),.s .gr],.box 41 [.i .i64,.i .i64]]⟩:PS).mk' [.b y1,.i y2,.i y3,.l (.sl 41 .sp) y4,.l .gr y5,.i y6,.i y7])))
noncomputable def fK.l1.g {γ:Type} (YK:HdK γ) (k:Nat) (K:gJ→St→Option γ):List Lf→Option γ
  | [.i v1,.i v2,.i v3,.l (.sl 41 .sp) v4,.l .gr v5,.i v6,.i v7]=>let q:=fK.l1.c YK K;fK.l1 q.1 q.2 k v1 v2 v3 v4 v5 v6 v7
  | _=>none
noncomputable def fK.l4.p:PS:=⟨[nO,nO,.one (.bp 0 0)]++nOs 148,[.box 25 [.i .i64,.i .i64,.s (.sl 41 .sp),.s .gr]]⟩
noncomputable def fK.l4.c {γ:Type} (YK:HdK γ) (K:gJ→St→Option γ)  := ((fun y1 y2 y3 y4 y5=>K .ret ((⟨nOs 4++[.one (.b)]++nOs 146,[.box 25 [.i .i64,.i .i64,.s (.sl 41 .sp),.s .gr]]⟩:PS).mk' [.b y1,.i y2,.i y3,.l (.sl 41 .sp) y4,.l .gr y5])),(fun y1 y2 y3 y4=>K .ret ((⟨nOs 4++[.one (.lb false)]++nOs 146,[.box 25 [.i .i64,.i .i64,.s (.sl 41 .sp),.s .gr]]⟩:PS).mk' [.i y1,.i y2,.l (.sl 41 .sp) y3,.l .gr y4])))
noncomputable def fK.l4.g {γ:Type} (YK:HdK γ) (k:Nat) (K:gJ→St→Option γ):List Lf→Option γ
  | [.i v1,.i v2,.l (.sl 41 .sp) v3,.l .gr v4]=>let q:=fK.l4.c YK K;fK.l4 q.1 q.2 k v1 v2 v3 v4
  | _=>none
noncomputable def fK.l3.p:PS:=⟨[nO,.one (.i .i64),.one (.bp 0 0)]++nOs 148,[.box 25 [.i .i64,.i .i64,.s (.sl 41 .sp),.s .gr]]⟩
noncomputable def fK.l3.c {γ:Type} (YK:HdK γ) (K:gJ→St→Option γ)  := ((fun y1 y2 y3 y4=>K .ret ((⟨nOs 4++[.one (.lb false)]++nOs 146,[.box 25 [.i .i64,.i .i64,.s (.sl 41 .sp),.s .gr]]⟩:PS).mk' [.i y1,.i y2,.l (.sl 41 .sp) y3,.l .gr y4])),(fun y1 y2 y3 y4 y5=>K .ret ((⟨nOs 4++[.one (.b)]++nOs 146,[.box 25 [.i .i64,.i .i64,.s (.sl 41 .sp),.s .gr]]⟩:PS).mk' [.b y1,.i y2,.i y3,.l (.sl 41 .sp) y4,.l .gr y5])))
noncomputable def fK.l3.g {γ:Type} (YK:HdK γ) (k:Nat) (K:gJ→St→Option γ):List Lf→Option γ
  | [.i v1,.i v2,.i v3,.l (.sl 41 .sp) v4,.l .gr v5]=>let q:=fK.l3.c YK K;fK.l3 q.1 q.2 k v1 v2 v3 v4 v5
  | _=>none
noncomputable def fK.l0.p:PS:=⟨[nO,.one (.i .i64),.one (.bp 0 0),nO,nO,.one (.i .i64),.one (.b)]++nOs 144,[.box 25 [.i .i64,.i .i64,.s (.sl 41 .sp),.s .gr]]⟩
noncomputable def fK.l0.c {γ:Type} (YK:HdK γ) (K:gJ→St→Option γ)  := ((fun y1 y2 y3 y4 y5 y6=>K .ret ((⟨nOs 4++[.one (.lb false)]++nOs 146,[.box 25 [.i .i64,.i .i64,.s (.sl 41 .sp),.s .gr],.box 41 [.i .i64,.i .i64]]⟩:PS).mk' [.i y1,.i y2,.l (.sl 41 .sp) y3,.l .gr y4,.i y5,.i y6])),(fun y1 y2 y3 y4 y5 y6 y7=>K .ret ((⟨nOs 4++[.one (.b)]++nOs 146,[.box 25 [.i .i64,.i .i64,.s (.sl 41 .sp),.s .gr],.box 41 [.i .i64,.i .i64]]⟩:PS).mk' [.b y1,.i y2,.i y3,.l (.sl 41 .sp) y4,.l .gr y5,.i y6,.i y7])),(fun y1 y2 y3 y4=>K .ret ((⟨nOs 4++[.one (.lb false)]++nOs 146,[.box 25 [.i .i64,.i .i64,.s (.sl 41 .sp),.s .gr]]⟩:PS).mk' [.i y1,.i y2,.l (.sl 41 .sp) y3,.l .gr y4])),(fun y1 y2 y3 y4 y5=>K .ret ((⟨nOs 4++[.one (.b)]++nOs 146,[.box 25 [.i .i64,.i .i64,.s (.sl 41 .sp),.s .gr]]⟩:PS).mk' [.b y1,.i y2,.i y3,.l (.sl 41 .sp) y4,.l .gr y5])))
noncomputable def fK.l0.g {γ:Type} (YK:HdK γ) (k:Nat) (K:gJ→St→Option γ):List Lf→Option γ
  | [.i v1,.i v2,.b v3,.i v4,.i v5,.l (.sl 41 .sp) v6,.l .gr v7]=>let q:=fK.l0.c YK K;fK.l0 q.1 q.2.1 q.2.2.1 q.2.2.2 k v1 v2 v3 v4 v5 v6 v7
  | _=>none
noncomputable def fK.C {γ:Type}:Ctx γ:=mkC (fun k=>mkE [(9,ji.m k),(10,gQ.m k),(11,je.m k),(26,jO.m k),(28,jY.m k),(30,jZ.m k)] []) [(7,Tryz.f7)] [(7,mkA [] [(1000022,[1,2,5,6]),(1000037,[1,2]),(1000049,[2])] [(1000022,[4]),(1000037,[4]),(1000049,[4])] [])] [⟨0,7,1000049,jN [(fK.l2.p,fK.l2.g),(fK.l4.p,fK.l4.g)]⟩,⟨0,7,1000037,jN [(fK.l1.p,fK.l1.g),(fK.l3.p,fK.l3.g)]⟩,⟨0,7,1000022,jN [(fK.l0.p,fK.l0.g)]⟩] []
theorem fK.l2.eq {γ:Type} (YK:HdK γ) (rl:Option Nat) (K:gJ→St→Option γ) (k:Nat) (v1:Int) (v2:Int) (v3:List (List P.S41)) (v4:List P.S43) (v5:Int) (v6:Int):fK.C.lK 0 7 1000049 Tryz.f7 YK rl 2 k (fK.l2.p.mk' [.i v1,.i v2,.l (.sl 41 .sp) v3,.l .gr v4,.i v5,.i v6]) K=fK.l2.g YK k K [.i v1,.i v2,.l (.sl 41 .sp) v3,.l .gr v4,.i v5,.i v6]:=by kernel_rfl
theorem fK.l1.eq {γ:Type} (YK:HdK γ) (rl:Option Nat) (K:gJ→St→Option γ) (k:Nat) (v1:Int) (v2:Int) (v3:Int) (v4:List (List P.S41)) (v5:List P.S43) (v6:Int) (v7:Int):fK.C.lK 0 7 1000037 Tryz.f7 YK rl 2 k (fK.l1.p.mk' [.i v1,.i v2,.i v3,.l (.sl 41 .sp) v4,.l .gr v5,.i v6,.i v7]) K=fK.l1.g YK k K [.i v1,.i v2,.i v3,.l (.sl 41 .sp) v4,.l .gr v5,.i v6,.i v7]:=by kernel_rfl
theorem fK.l4.eq {γ:Type} (YK:HdK γ) (rl:Option Nat) (K:gJ→St→Option γ) (k:Nat) (v1:Int) (v2:Int) (v3:List (List P.S41)) (v4:List P.S43):fK.C.lK 0 7 1000049 Tryz.f7 YK rl 1 k (fK.l4.p.mk' [.i v1,.i v2,.l (.sl 41 .sp) v3,.l .gr v4]) K=fK.l4.g YK k K [.i v1,.i v2,.l (.sl 41 .sp) v3,.l .gr v4]:=by kernel_rfl
theorem fK.l3.eq {γ:Type} (YK:HdK γ) (rl:Option Nat) (K:gJ→St→Option γ) (k:Nat) (v1:Int) (v2:Int) (v3:Int) (v4:List (List P.S41)) (v5:List P.S43):fK.C.lK 0 7 1000037 Tryz.f7 YK rl 1 k (fK.l3.p.mk' [.i v1,.i v2,.i v3,.l (.sl 41 .sp) v4,.l .gr v5]) K=fK.l3.g YK k K [.i v1,.i v2,.i v3,.l (.sl 41 .sp) v4,.l .gr v5]:=by kernel_rfl
theorem fK.l0.eq {γ:Type} (YK:HdK γ) (rl:Option Nat) (K:gJ→St→Option γ) (k:Nat) (v1:Int) (v2:Int) (v3:Bool) (v4:Int) (v5:Int) (v6:List (List P.S41)) (v7:List P.S43):fK.C.lK 0 7 1000022 Tryz.f7 YK rl 1 k (fK.l0.p.mk' [.i v1,.i v2,.b v3,.i v4,.i v5,.l (.sl 41 .sp) v6,.l .gr v7]) K=fK.l0.g YK k K [.i v1,.i v2,.b v3,.i v4,.i v5,.l (.sl 41 .sp) v6,.l .gr v7]:=by kernel_rfl
noncomputable def lX.m (k:Nat):Sm:=ko [(.sl 3 (.int .i64))] [.pl (.sl 3 (.int .i64))] (fun a=>lX.f k a.1)
noncomputable def jB.y0.p0:List PB:=[.box 25 [.i .i64,.i .i64,.s (.sl 41 .sp),.s .gr],.box 28 [.s .sp],.box 36 [.lo 3 (.int .i64)],.box 29 [.li .i64 0],.box 41 [.i .i64,.i .i64],.box 36 [.o 3 (.int .i64)],.box 3 [.i .i64],.box 25 [.i .i64,.i .i64,.s (.sl 41 .sp),.s .gr],.box 41 [.i .i64,.i .i64],.lp .normal]
noncomputable def jB.y0.p1:List PB:=[.box 25 [.i .i64,.i .i64,.s (.sl 41 .sp),.s .gr],.box 28 [.s .sp],.box 36 [.lo 3 (.int .i64)],.box 29 [.li .i64 3],.box 41 [.i .i64,.i .i64],.box 36 [.o 3 (.int .i64)],.box 3 [.i .i64],.box 25 [.i .i64,.i .i64,.s (.sl 41 .sp),.s .gr],.box 41 [.i .i64,.i .i64],.lp .ret]
noncomputable def jB.y0 {γ:Type} (x:AV) (bx:List Bx) (x0:Int→Int→(List (List P.S41))→(List P.S43)→(List P.S41)→Int→Int→(List Int)→Int→Int→Int→(List (List P.S41))→(List P.S43)→Int→Int→Option γ) (x1:Int→Int→(List (List P.S41))→(List P.S43)→(List P.S41)→Int→Int→(List Int)→Int→Int→Int→(List (List P.S41))→(List P.S43)→Int→Int→Option γ):Option γ :=
  match yrd true jB.y0.p0 x bx with
  | some [.i z1,.i z2,.l (.sl 41 .sp) z3,.l .gr z4,.l .sp z5,.i z6,.i z7,.l (.int .i64) z8,.i z9,.i z10,.i z11,.l (.sl 41 .sp) z12,.l .gr z13,.i z14,.i z15]=>(x0 z1 z2 z3 z4 z5 z6 z7 z8 z9 z10 z11 z12 z13 z14 z15)
  | _=>match yrd false jB.y0.p1 x bx with
  | some [.i z1,.i z2,.l (.sl 41 .sp) z3,.l .gr z4,.l .sp z5,.i z6,.i z7,.l (.int .i64) z8,.i z9,.i z10,.i z11,.l (.sl 41 .sp) z12,.l .gr z13,.i z14,.i z15]=>(x1 z1 z2 z3 z4 z5 z6 z7 z8 z9 z10 z11 z12 z13 z14 z15)
  | _=>none
noncomputable def jB.y0T {γ:Type}:YdK γ:=fun K x bx=>jB.y0 x bx (fun z1 z2 z3 z4 z5 z6 z7 z8 z9 aa ab z12 ac af ah=>K (lC true) (oZ jB.y0.p0 [.i z1,.i z2,.l (.sl 41 .sp) z3,.l .gr z4,.l .sp z5,.i z6,.i z7,.l (.int .i64) z8,.i z9,.i aa,.i ab,.l (.sl 41 .sp) z12,.l .gr ac,.i af,.i ah]).1) (fun z1 z2 z3 z4 z5 z6 z7 z8 z9 aa ab z12 ac af ah=>K (lC false) (oZ jB.y0.p1 [.i z1,.i z2,.l (.sl 41 .sp) z3,.l .gr z4,.l .sp z5,.i z6,.i z7,.l (.int .i64) z8,.i z9,.i aa,.i ab,.l (.sl 41 .sp) z12,.l .gr ac,.i af,.i ah]).1)
noncomputable def jB.l0.p:PS:=⟨[.one (.yl 9),.one (.bp 7 0),.one (.bp 8 0),nO,.one (.i .i64),.one (.b)]++nOs 40,[.box 25 [.i .i64,.i .i64,.s (.sl 41 .sp),.s .gr],.box 28 [.s .sp],.box 36 [.lo 3 (.int .i64)],.box 29 [.li .i64 0],.box 41 [.i .i64,.i .i64],.box 36 [.o 3 (.int .i64)],.box 3 [.i .i64],.box 25 [.i .i64,.i .i64,.s (.sl 41 .sp),.s .gr],.box 41 [.i .i64,.i .i64],.lp .normal]⟩
noncomputable def jB.l0.c {γ:Type} (YK:HdK γ) (K:gJ→St→Option γ)  := ((fun q0 q1 q2 q3 q4 q5 q6 q7 q8 q9 ai aj ak al am ao q16 x0 x1=>(YK 9).bind fun h=>h [.pt (.one (.v (.int .i64 q0))),.pt (.one (.sl .sp q1))] [.box 25 [.v (.int .i64 q2),.v (.int .i64 q3),.sl (.sl 41 .sp) q4,.sl .gr q5],.box 28 [.sl .sp q6],.box 36 [.ow 3 (.int .i64) []],.box 29 [.v (.int .i64 0)],.box 41 [.v (.int .i64 q7),.v (.int .i64 q8)],.box 36 [.ow 3 (.int .i64) q9],.box 3 [.v (.int .i64 ai)],.box 25 [.v (.int .i64 aj),.v (.int .i64 ak),.sl (.sl 41 .sp) al,.sl .gr am],.box 41 [.v (.int .i64 ao),.v (.int .i64 q16)],.lp .normal] (fun x bx=>jB.y0 x bx x0 x1)),(fun y1 y2 y3 y4 y5 y6 y7 y8 y9 aa ab ac y13 af ah=>K .ret ((⟨nOs 46,[.box 25 [.i .i64,.i .i64,.s (.sl 41 .sp),.s .gr],.box 28 [.s .sp],.box 36 [.lo 3 (.int .i64)],.box 29 [.li .i64 0],.box 41 [.i .i64,.i .i64],.box 36 [.o 3 (.int .i64)],.box 3 [.i .i64],.box 25 [.i .i64,.i .i64,.s (.sl 41 .sp),.s .gr],.box 41 [.i .i64,.i .i64],.lp .normal]⟩:PS).mk' [.i y1,.i y2,.l (.sl 41 .sp) y3,.l .gr y4,.l .sp y5,.i y6,.i y7,.l (.int .i64) y8,.i y9,.i aa,.i ab,.l (.sl 41 .sp) ac,.l .gr y13,.i af,.i ah])),(fun y1 y2 y3 y4 y5 y6 y7 y8 y9 aa ab ac y13 af ah=>K .ret ((⟨nOs 46,[.box 25 [.i .i64,.i .i64,.s (.sl 41 .sp),.s .gr],.box 28 [.s .sp],.box 36 [.lo 3 (.int .i64)],.box 29 [.li .i64 3],.box 41 [.i .i64,.i .i64],.box 36 [.o 3 (.int .i64)],.box 3 [.i .i64],.box 25 [.i .i64,.i .i64,.s (.sl 41 .sp),.s .gr],.box 41 [.i .i64,.i .i64],.lp .ret]⟩:PS).mk' [.i y1,.i y2,.l (.sl 41 .sp) y3,.l .gr y4,.l .sp y5,.i y6,.i y7,.l (.int .i64) y8,.i y9,.i aa,.i ab,.l (.sl 41 .sp) ac,.l .gr y13,.i af,.i ah])),(fun y1 y2 y3 y4 y5 y6 y7 y8 y9 aa ab ac y13 af ah=>K (.exit 0) ((⟨nOs 46,[.box 25 [.i .i64,.i .i64,.s (.sl 41 .sp),.s .gr],.box 28 [.s .sp],.box 36 [.lo 3 (.int .i64)],.box 29 [.li .i64 0],.box 41 [.i .i64,.i .i64],.box 36 [.o 3 (.int .i64)],.box 3 [.i .i64],.box 25 [.i .i64,.i .i64,.s (.sl 41 .sp),.s .gr],.box 41 [.i .i64,.i .i64],.lp .normal]⟩:PS).mk' [.i y1,.i y2,.l (.sl 41 .sp) y3,.l .gr y4,.l .sp y5,.i y6,.i y7,.l (.int .i64) y8,.i y9,.i aa,.i ab,.l (.sl 41 .sp) ac,.l .gr y13,.i af,.i ah])))
noncomputable def jB.l0.g {γ:Type} (YK:HdK γ) (k:Nat) (K:gJ→St→Option γ):List Lf→Option γ
  | [.i v1,.b v2,.i v3,.i v4,.l (.sl 41 .sp) v5,.l .gr v6,.l .sp v7,.i v8,.i v9,.l (.int .i64) v10,.i v11,.i v12,.i v13,.l (.sl 41 .sp) v14,.l .gr v15,.i v16,.i v17]=>let q:=jB.l0.c YK K;jB.l0 q.1 q.2.1 q.2.2.1 q.2.2.2 k v1 v2 v3 v4 v5 v6 v7 v8 v9 v10 v11 v12 v13 v14 v15 v16 v17
  | _=>none
noncomputable def jB.C {γ:Type}:Ctx γ:=mkC (fun k=>mkE [(11,je.m k),(32,jT.m k),(50,fM.m k),(52,iV.m k),(60,iW.m k),(108,iF.m k),(141,lX.m k)] [140]) [(105,Tryz.f105),(140,Tryz.f140),(164,Tryz.f164)] [(105,mkA [34] [] [] []),(140,mkA [] [] [] []),(164,mkA [] [(0,[0,1,2,4,5])] [(0,[])] [])] [⟨1,164,0,jN [(jB.l0.p,jB.l0.g)]⟩] [⟨1,164,9,jB.y0T⟩]
theorem jB.l0.eq {γ:Type} (YK:HdK γ) (rl:Option Nat) (K:gJ→St→Option γ)  : ∀ k:Nat,(fun (v1:Int) (v2:Bool) (v3:Int) (v4:Int) (v5:List (List P.S41)) (v6:List P.S43) (v7:List P.S41) (v8:Int) (v9:Int) (v10:List Int) (v11:Int) (v12:Int) (v13:Int) (v14:List (List P.S41)) (v15:List P.S43) (v16:Int) (v17:Int)=>jB.C.lK 1 164 0 Tryz.f164 YK rl 10 k (jB.l0.p.mk' [.i v1,.b v2,.i v3,.i v4,.l (.sl 41 .sp) v5,.l .gr v6,.l .sp v7,.i v8,.i v9,.l (.int .i64) v10,.i v11,.i v12,.i v13,.l (.sl 41 .sp) v14,.l .gr v15,.i v16,.i v17]) K)=(fun (v1:Int) (v2:Bool) (v3:Int) (v4:Int) (v5:List (List P.S41)) (v6:List P.S43) (v7:List P.S41) (v8:Int) (v9:Int) (v10:List Int) (v11:Int) (v12:Int) (v13:Int) (v14:List (List P.S41)) (v15:List P.S43) (v16:Int) (v17:Int)=>jB.l0.g YK k K [.i v1,.b v2,.i v3,.i v4,.l (.sl 41 .sp) v5,.l .gr v6,.l .sp v7,.i v8,.i v9,.l (.int .i64) v10,.i v11,.i v12,.i v13,.l (.sl 41 .sp) v14,.l .gr v15,.i v16,.i v17]):=iK (fun R k v1 v2 v3 v4 v5 v6 v7 v8 v9 v10 v11 v12 v13 v14 v15 v16 v17=>jB.l0T (jB.l0.c YK K).1 (jB.l0.c YK K).2.1 (jB.l0.c YK K).2.2.1 (jB.l0.c YK K).2.2.2 R k v1 v2 v3 v4 v5 v6 v7 v8 v9 v10 v11 v12 v13 v14 v15 v16 v17) (by kernel_rfl) (fun k=>by kernel_rfl) (fun k=>by kernel_rfl)
end Go.Proofs.YtongeknogcboiaaGreat.R
namespace Go.Proofs.YtongeknogcboiaaGreat.M
noncomputable section
set_option linter.unusedVariables false
set_option linter.unusedSimpArgs false
open Go.RowKit Go.Proofs.YtongeknogcboiaaGreatW.gq Go.Proofs.YtongeknogcboiaaGreatW.iE
def gh0 (W:World):Gh:={ ow:=fun _=>none,pr:=fun b _=>b<W.heap.size,bx:=fun _=>0,lr:=fun _=>default,lv:=fun _=>False,av:=fun _=>undef }
theorem cp0 {W:World} {a:Addr} {v:Value} (h:W.cell? a=some v):ny (gh0 W) W a v:=⟨h,by
  show a.block<W.heap.size;unfold World.cell? at h;cases hb:W.heap[a.block]? with
  | none=>rw [hb] at h;cases h
  | some _=>exact (Array.getElem?_eq_some_iff.1 hb).1⟩
theorem row0 {α:Type} {R R':α→List Value→Prop} {sz n:Nat} (hz:0<sz) {W:World} (hR:∀ x cs,R x cs→R' x cs) {A:Option Addr} {xs:List α} (h:nA R sz W A n xs):ada R' sz (ny (gh0 W) W) A xs:=fun i x hx=>by
  obtain ⟨hl,_,h⟩:=h;have hi:0<n:=by have:=(List.getElem?_eq_some_iff.1 hx).1;omega
  obtain ⟨ad,rfl,h2⟩:=h hi;obtain ⟨c,hc,hr,hcell⟩:=h2 i x hx;have hs:ad.spot=none:=by
    obtain ⟨c0,hc0,_,hcell0⟩:=h2 0 _ (List.getElem?_eq_getElem (by omega));have:=hcell0 0 (c0[0]'(by omega)) (by simp);rw [Nat.zero_mul] at this;exact r9 this
  obtain ⟨b,o,s⟩:=ad;obtain rfl:s=none:=hs;refine ⟨b,o,c,rfl,hR _ _ hr,hc,fun j v hv => ?_⟩;have:=hcell j v hv;rw [Addr.add_mid] at this;exact cp0 this
theorem sl0 {α:Type} {R R':α→List Value→Prop} {sz c:Nat} (hz:0<sz) {W:World} (hR:∀ x cs,R x cs→R' x cs) {A:Option Addr} {xs:List α} (hc:xs.length≤c) (h:nA R sz W A xs.length xs):SlR R' sz (ny (gh0 W) W) xs (.slice A xs.length c):=⟨A,c,rfl,hc,row0 hz hR h⟩
theorem fm0 {W:World} (p c:Int) {A2:Option Addr} {c2:Nat} {core:List (List P.S41)} {A3:Option Addr} {c3:Nat} {odd:List P.S43} (h2:Kd.C (Kd.slice 41 P.k41) W A2 core.length core) (l2:core.length≤c2) (h3:Kd.C P.k43 W A3 odd.length odd) (l3:odd.length≤c3) :
    Ty.fm.R (ny (gh0 W) W) ⟨p,c,core,odd⟩ [.int .i64 p,.int .i64 c,.slice A2 core.length c2,.slice A3 odd.length c3] :=
  ⟨_,_,rfl,sl0 (by decide) (fun x cs h=>by
    obtain ⟨A,k,rfl,hl,hk⟩:=h;exact ⟨_,rfl,sl0 (by decide) (fun x cs h=>P.zK h) hl hk⟩) l2 h2,sl0 (by decide) (fun x cs h=>by
    obtain ⟨A,k,rfl,hl,hk⟩:=P.adp h;exact ⟨_,rfl,sl0 (by decide) (fun x cs h=>P.zK h) hl hk⟩) l3 h3⟩
def afI (W:World):(ts:List Ty)→pz ts→List Value→Prop
  | [],_,[]=>True
  | t :: ts,a,v :: vs=>(∃ ws,t.R (ny (gh0 W) W) a.1 ws∧VW t ws v)∧afI W ts a.2 vs
  | _,_,_=>False
theorem agT {W:World}:∀ {ts:List Ty} {a:pz ts} {vs:List Value},afI W ts a vs→(l7 ts a).length=vs.length∧∀ (i:Nat) (x:AV) (v:Value),(l7 ts a)[i]? = some x→vs[i]? = some v→∀ fr' i',AVR 0 (gh0 W) W fr' i' x v
  | [],_,[],_=>⟨rfl,fun i x v hx=>by simp [l7] at hx⟩
  | [],_,_ :: _,h=>h.elim
  | _ :: _,_,[],h=>h.elim
  | t :: ts,a,v :: vs,⟨⟨ws,h1,h2⟩,h3⟩=>by
    obtain ⟨q1,q2⟩:=agT h3;refine ⟨by simp [l7,q1],fun i x u hx hu fr' i' => ?_⟩;cases i with
    | zero =>
      simp [l7] at hx hu
      subst hx;subst hu;exact aft _ t a.1 h1 h2
    | succ i=>exact q2 i x u (by simpa [l7] using hx) (by simpa using hu) fr' i'
theorem Ty.of_cells:(t:Ty)→(x:t.T)→t.of (t.cells x)=some x
  | .int k,x=>by simp [Ty.of,Ty.cells]
  | .bool,x=>rfl
  | .str,x=>rfl
  | .sp,x=>rfl
  | .gr,x=>by simp [Ty.of,Ty.cells,Cell.asL]
  | .fm,x=>by simp [Ty.of,Ty.cells,Cell.asL]
  | .sl _ t,x=>by simp [Ty.of,Ty.cells,Cell.asL]
theorem agU (t:Ty) (x:t.T):rdP t (mkP t x)=some x:=by
  have h:=Ty.of_cells t x;cases t <;> simpa [mkP,rdP,Ty.cells,Ty.ag] using h
theorem xU:(ts:List Ty)→(a:pz ts)→pK ts (l7 ts a)=some a
  | [],_=>rfl
  | t :: ts,a=>by
    simp only [l7,pK,agU,xU ts a.2];rfl
theorem aco {P:Program} {f:FuncId} {ts:List Ty} {F:pz ts→Option Bool} (h:j5 P f (ko ts [.pl .bool] F).s) {W:World} {a:pz ts} {vs:List Value} (hR:afI W ts a vs) (hF:F a=some true) :
    Calls P f vs.toArray W fun e W'=>e=.returned (.bool true)∧Below W.heap.size W W':=by
  obtain ⟨fn,_,_,_,h⟩:=h;obtain ⟨q1,q2⟩:=agT hR;have hs:(ko ts [.pl .bool] F).s (l7 ts a)=some (aa9 [.pl .bool] true):=by
    show ((pK ts (l7 ts a)).map F).bind _=_;rw [xU];show (F a).map _=_;rw [hF];rfl
  refine (h 0 (gh0 W) W 0 0 _ _ _ ⟨fun b o hb=>hb,fun b ℓ hl=>by cases hl⟩ (by simpa using q1) (fun i x v hx hv=>q2 i x v hx (by simpa using hv)) hs).mono ?_;rintro e W' ⟨v,rfl,g',_,_,hE,hv⟩;refine ⟨?_,⟨hE.os,hE.tape,hE.output,hE.size,fun b hb=>(hE.far b hb (fun ℓ hl=>by cases hl)).1⟩⟩;have hv:v=.bool true∧_:=hv;rw [hv.1]
end
end Go.Proofs.YtongeknogcboiaaGreat.M
namespace Go.Proofs.YtongeknogcboiaaGreat.P
set_option linter.unusedVariables false
set_option linter.unusedSimpArgs false
open Go.RowKit
def SL (lo hi:Int):List Sp→Prop
  | []=>True
  | s :: r=>lo≤s.f0∧s.f0≤s.f1∧s.f1≤hi∧SL (s.f1+2) hi r
def kE (l:List Sp) (x:Int):Bool:=l.any fun s=>decide (s.f0≤x)&&decide (x≤s.f1)
theorem qC (x:Int):kE [] x=false:=rfl
theorem kR (s:Sp) (r:List Sp) (x:Int):kE (s :: r) x=((decide (s.f0≤x)&&decide (x≤s.f1)) || kE r x):=rfl
theorem pW (l m:List Sp) (x:Int):kE (l++m) x=(kE l x || kE m x):=by simp [kE]
theorem mK {l:List Sp} {x:Int}:kE l x=true↔∃ s∈l,s.f0≤x∧x≤s.f1:=by simp [kE]
theorem SL.mono {lo lo' hi:Int} (h:lo'≤lo):∀ {l:List Sp},SL lo hi l→SL lo' hi l
  | [],_=>trivial
  | _ :: _,hs=>⟨by have:=hs.1;omega,hs.2⟩
theorem SL.low {lo hi:Int} {l:List Sp} (hs:SL lo hi l) {x:Int} (hx:x<lo):kE l x=false:=by
  induction l generalizing lo with
  | nil=>rfl
  | cons s r ih =>
    obtain ⟨h1,h2,h3,h4⟩:=hs;rw [kR,ih h4 (by omega)];have:¬ s.f0≤x:=by omega
    simp [this]
theorem SL.high {lo hi:Int} {l:List Sp} (hs:SL lo hi l) {x:Int} (hx:hi<x):kE l x=false:=by
  induction l generalizing lo with
  | nil=>rfl
  | cons s r ih =>
    obtain ⟨h1,h2,h3,h4⟩:=hs;rw [kR,ih h4];have:¬ x≤s.f1:=by omega
    simp [this]
theorem SL.ticks {lo hi:Int} {l:List Sp} (hs:SL lo hi l) {s:Sp} (h:s∈l):lo≤s.f0∧s.f0≤s.f1∧s.f1≤hi:=by
  induction l generalizing lo with
  | nil=>simp at h
  | cons t r ih =>
    obtain ⟨h1,h2,h3,h4⟩:=hs;rcases List.mem_cons.1 h with rfl | h
    · exact ⟨h1,h2,h3⟩
    · obtain ⟨a,b,c⟩:=ih h4 h
      exact ⟨by omega,b,c⟩
def Inv (hi:Int) (a:List Sp) (i:Bool) (p:Int):Prop :=
  match a,i with
  | [],i=>i=false
  | s :: r,true=>s.f0≤p∧p≤s.f1∧s.f1≤hi∧SL (s.f1+2) hi r
  | s :: r,false=>SL (p+1) hi (s :: r)
theorem oI {n:Int} (h1 : -9223372036854775808≤n) (h2:n≤9223372036854775807):wrap64 n=n:=by unfold wrap64;omega
theorem Inv.nxt {hi p:Int} {a:List Sp} {i:Bool} (h:Inv hi a i p) (hp : -4611686018427387904≤p) (hh:hi≤4611686018427387904) (hn:a≠[]):p<qH a i∧qH a i≤hi+1:=by
  match a,i,hn with
  | s :: r,true,_ =>
    obtain ⟨h1,h2,h3,h4⟩:=h;have hw:wrap64 (s.f1+1)=s.f1+1:=oI (by omega) (by omega);simp only [qH,hw];omega
  | s :: r,false,_ =>
    obtain ⟨h1,h2,h3,h4⟩:=h;simp only [qH];omega
theorem Inv.step {hi p t:Int} {a:List Sp} {i:Bool} (h:Inv hi a i p) (hp : -4611686018427387904≤p) (hh:hi≤4611686018427387904) (hpt:p<t) (ht:a≠[]→t≤qH a i) :
    Inv hi (kQ a i t).1 (kQ a i t).2 t∧(∀ x,t≤x→kE (kQ a i t).1 x=kE a x)∧(∀ x,p≤x→x<t→kE a x=i):=by
  match a,i with
  | [],i =>
    have:i=false:=h;subst this;exact ⟨rfl,fun _ _=>rfl,fun _ _ _=>rfl⟩
  | s :: r,true =>
    obtain ⟨h1,h2,h3,h4⟩:=h;have hw:wrap64 (s.f1+1)=s.f1+1:=oI (by omega) (by omega);have ht':=ht (by simp);simp only [qH,hw] at ht';have hin:∀ x,p≤x→x<t→kE (s :: r) x=true:=fun x a b=>by
      have c1:s.f0≤x:=by omega
      have c2:x≤s.f1:=by omega
      simp [kR,c1,c2]
    simp only [kQ,hw];by_cases e:s.f1+1=t
    · rw [if_pos e]
      refine ⟨?_,fun x hx => ?_,hin⟩
      · cases r with
        | nil=>rfl
        | cons u r=>exact SL.mono (by omega) h4
      · have:¬ x≤s.f1:=by omega
        simp [kR,this]
    · rw [if_neg e]
      exact ⟨⟨by omega,by omega,h3,h4⟩,fun _ _=>rfl,hin⟩
  | s :: r,false =>
    obtain ⟨h1,h2,h3,h4⟩:=h;have ht':=ht (by simp);simp only [qH] at ht';have hout:∀ x,p≤x→x<t→kE (s :: r) x=false:=fun x a b=>by
      have c1:¬ s.f0≤x:=by omega
      rw [kR,h4.low (by omega)];simp [c1]
    simp only [kQ];by_cases e:s.f0=t
    · rw [if_pos e]
      exact ⟨⟨by omega,by omega,h3,h4⟩,fun _ _=>rfl,hout⟩
    · rw [if_neg e]
      exact ⟨⟨by omega,h2,h3,h4⟩,fun _ _=>rfl,hout⟩
theorem ad5 (yes:Bool→Bool→Bool) (xs:List Bd):∀ (i:Bool) (f:Int) (o:List Sp),(xs.foldl (nC yes) ⟨i,f,o⟩).out=o++(xs.foldl (nC yes) ⟨i,f,[]⟩).out:=by
  induction xs with
  | nil=>intro i f o;simp
  | cons x xs ih =>
    intro i f o;simp only [List.foldl_cons,nC];split
    · exact ih _ _ _
    · split
      · rw [ih _ _ (o++_),ih _ _ ([]++_)];simp
      · exact ih _ _ _
theorem ah7 (yes:Bool→Bool→Bool) (hy:yes false false=false) (hi aj:Int) (hlo : -4611686018427387904≤aj) (hh:hi≤4611686018427387904) (n:Nat):∀ (a:List Sp) (ia:Bool) (b:List Sp) (ib:Bool) (p from_:Int),
    msr a ia+msr b ib≤n→Inv hi a ia p→Inv hi b ib p→aj≤p+1 → -4611686018427387904≤p→(yes ia ib=true→aj≤from_∧from_≤p) →
    SL (if yes ia ib then from_ else p+1) hi ((rM a ia b ib).foldl (nC yes) ⟨yes ia ib,from_,[]⟩).out ∧
    ∀ x,kE ((rM a ia b ib).foldl (nC yes) ⟨yes ia ib,from_,[]⟩).out x=if x<p then (yes ia ib&&decide (from_≤x)) else yes (kE a x) (kE b x):=by
  induction n with
  | zero =>
    intro a ia b ib p from_ hm ha hb hp hp2 hf;have e:a=[]∧b=[]:=by
      by_cases e:a=[]∧b=[]
      · exact e
      · have:=rZ a ia b ib e;omega
    obtain ⟨rfl,rfl⟩:=e;have h1:ia=false:=ha;have h2:ib=false:=hb;subst h1 h2;rw [qm,hy];refine ⟨trivial,fun x => ?_⟩;simp [qC,hy]
  | succ n ih =>
    intro a ia b ib p from_ hm ha hb hp hp2 hf;by_cases e:a=[]∧b=[]
    · obtain ⟨rfl,rfl⟩:=e
      have h1:ia=false:=ha;have h2:ib=false:=hb;subst h1 h2;rw [qm,hy];refine ⟨trivial,fun x => ?_⟩;simp [qC,hy]
    · have hlt:=rZ a ia b ib e
      rw [uq a ia b ib e];have ht:p<atL a ia b ib∧atL a ia b ib≤hi+1∧(a≠[]→atL a ia b ib≤qH a ia)∧(b≠[]→atL a ia b ib≤qH b ib):=by
        unfold atL;by_cases h1:a=[]
        · have h2:b≠[]:=fun h=>e ⟨h1,h⟩
          rw [if_pos h1];have:=hb.nxt hp2 hh h2;exact ⟨this.1,this.2,fun h=>absurd h1 h,fun _=>Int.le_refl _⟩
        · rw [if_neg h1]
          have q1:=ha.nxt hp2 hh h1;by_cases h2:b=[]
          · rw [if_pos h2]
            exact ⟨q1.1,q1.2,fun _=>Int.le_refl _,fun h=>absurd h2 h⟩
          · rw [if_neg h2]
            have q2:=hb.nxt hp2 hh h2;exact ⟨by omega,by omega,fun _=>by omega,fun _=>by omega⟩
      obtain ⟨t,hte⟩:∃ t,atL a ia b ib=t:=⟨_,rfl⟩;rw [hte] at ht hlt ⊢;obtain ⟨ht1,ht2,ht3,al⟩:=ht;obtain ⟨ah,ha2,am⟩:=ha.step hp2 hh ht1 ht3;obtain ⟨ai,hb2,hb3⟩:=hb.step hp2 hh ht1 al;obtain ⟨a1,aa,hpa⟩:∃ a1 aa,kQ a ia t=(a1,aa):=⟨_,_,rfl⟩;obtain ⟨b1,ab,hpb⟩:∃ b1 ab,kQ b ib t=(b1,ab):=⟨_,_,rfl⟩;rw [hpa] at hlt ah ha2 ⊢;rw [hpb] at hlt ai hb2 ⊢;dsimp only at hlt ah ha2 ai hb2 ⊢;have hw:wrap64 (t - 1)=t - 1:=oI (by omega) (by omega);have hval:∀ x,p≤x→x<t→yes (kE a x) (kE b x)=yes ia ib:=fun x h1 h2=>by rw [am x h1 h2,hb3 x h1 h2]
      have af:∀ x,t≤x→yes (kE a1 x) (kE b1 x)=yes (kE a x) (kE b x):=fun x h1=>by rw [ha2 x h1,hb2 x h1]
      simp only [List.foldl_cons];cases hin:yes ia ib with
      | false =>
        cases ac:yes aa ab with
        | true =>
          have hk:nC yes ⟨false,from_,[]⟩ ⟨t,aa,ab⟩=⟨yes aa ab,t,[]⟩:=by simp [nC,ac]
          rw [hk];obtain ⟨s1,s2⟩:=ih a1 aa b1 ab t t (by omega) ah ai (by omega) (by omega) (fun _=>⟨by omega,Int.le_refl _⟩);rw [ac] at s1 s2 ⊢;refine ⟨by simpa using SL.mono (by simp;omega) s1,fun x => ?_⟩;rw [s2 x];by_cases c1:x<p
          · have c2:x<t:=by omega
            have c3:¬ t≤x:=by omega
            simp [c1,c2,c3]
          · by_cases c2:x<t
            · have c3:¬ t≤x:=by omega
              rw [if_neg c1,hval x (by omega) c2,hin];simp [c2,c3]
            · rw [if_neg c1,if_neg c2,af x (by omega)]
        | false =>
          have hk:nC yes ⟨false,from_,[]⟩ ⟨t,aa,ab⟩=⟨yes aa ab,from_,[]⟩:=by simp [nC,ac]
          rw [hk];obtain ⟨s1,s2⟩:=ih a1 aa b1 ab t from_ (by omega) ah ai (by omega) (by omega) (fun h=>by rw [ac] at h;cases h);rw [ac] at s1 s2 ⊢;refine ⟨by simpa using SL.mono (by simp;omega) s1,fun x => ?_⟩;rw [s2 x];by_cases c1:x<p
          · have c2:x<t:=by omega
            simp [c1,c2]
          · by_cases c2:x<t
            · rw [if_neg c1,hval x (by omega) c2,hin]
              simp [c2]
            · rw [if_neg c1,if_neg c2,af x (by omega)]
      | true =>
        obtain ⟨hf1,hf2⟩:=hf hin;cases ac:yes aa ab with
        | true =>
          have hk:nC yes ⟨true,from_,[]⟩ ⟨t,aa,ab⟩=⟨yes aa ab,from_,[]⟩:=by simp [nC,ac]
          rw [hk];obtain ⟨s1,s2⟩:=ih a1 aa b1 ab t from_ (by omega) ah ai (by omega) (by omega) (fun _=>⟨hf1,by omega⟩);rw [ac] at s1 s2 ⊢;refine ⟨by simpa using s1,fun x => ?_⟩;rw [s2 x];by_cases c1:x<p
          · have c2:x<t:=by omega
            simp [c1,c2]
          · by_cases c2:x<t
            · have c3:from_≤x:=by omega
              rw [if_neg c1,hval x (by omega) c2,hin];simp [c2,c3]
            · rw [if_neg c1,if_neg c2,af x (by omega)]
        | false =>
          have hk:nC yes ⟨true,from_,[]⟩ ⟨t,aa,ab⟩=⟨yes aa ab,from_,[⟨from_,t - 1⟩]⟩:=by simp [nC,ac,hw]
          rw [hk,ad5];obtain ⟨s1,s2⟩:=ih a1 aa b1 ab t from_ (by omega) ah ai (by omega) (by omega) (fun h=>by rw [ac] at h;cases h);rw [ac] at s1 s2 ⊢;refine ⟨⟨by simp,by show from_≤t - 1;omega,by show t - 1≤hi;omega,?_⟩,fun x => ?_⟩
          · have:(t - 1:Int)+2=t+1:=by omega
            show SL (t - 1+2) hi _;rw [this];simpa using s1
          · have ak:kE ([⟨from_,t - 1⟩]++(List.foldl (nC yes) ⟨false,from_,[]⟩ (rM a1 aa b1 ab)).out) x=((decide (from_≤x)&&decide (x≤t - 1)) || kE (List.foldl (nC yes) ⟨false,from_,[]⟩ (rM a1 aa b1 ab)).out x):=rfl
            rw [ak,s2 x];by_cases c1:x<p
            · have c2:x<t:=by omega
              have c3:x≤t - 1:=by omega
              simp [c1,c2,c3]
            · by_cases c2:x<t
              · have c3:from_≤x:=by omega
                have c4:x≤t - 1:=by omega
                rw [if_neg c1,hval x (by omega) c2,hin];simp [c2,c3,c4]
              · have c4:¬ x≤t - 1:=by omega
                rw [if_neg c1,if_neg c2,af x (by omega)];simp [c4]
theorem abb (yes:Bool→Bool→Bool) (hy:yes false false=false) {lo hi:Int} (hlo : -4611686018427387903≤lo) (hh:hi≤4611686018427387904) {a b:List Sp} (ha:SL lo hi a) (hb:SL lo hi b) :
    SL lo hi (pO yes a b)∧∀ x,kE (pO yes a b) x=yes (kE a x) (kE b x):=by
  have inv:∀ {a:List Sp},SL lo hi a→Inv hi a false (lo - 1):=by
    intro a h;cases a with
    | nil=>rfl
    | cons s r=>exact SL.mono (by omega) h
  obtain ⟨h1,h2⟩:=ah7 yes hy hi lo (by omega) hh _ a false b false (lo - 1) 0 (Nat.le_refl _) (inv ha) (inv hb) (by omega) (by omega) (fun h=>by rw [hy] at h;cases h);rw [hy] at h1 h2;refine ⟨by simpa [pO,ae1] using SL.mono (by simp) h1,fun x => ?_⟩;have:=h2 x;unfold pO ae1;rw [this];by_cases c:x<lo - 1
  · rw [if_pos c,ha.low (by omega),hb.low (by omega),hy];simp
  · rw [if_neg c]
def ins:List Int→Int→List Int
  | [],x=>[x]
  | y :: r,x=>if y=x then y :: r else if y>x then x :: y :: r else y :: ins r x
def Up (l:List Int):Prop:=l.Pairwise (· < ·)
theorem vQ (l:List Int) (x z:Int):z∈ins l x↔z∈l∨z=x:=by
  induction l with
  | nil=>simp [ins]
  | cons y r ih =>
    simp only [ins];by_cases h:y=x
    · rw [if_pos h];subst h;simp;exact fun e=>.inl e
    · rw [if_neg h]
      by_cases h2:y>x
      · rw [if_pos h2];simp;constructor
        · rintro (h | h | h)
          · exact .inr h
          · exact .inl (.inl h)
          · exact .inl (.inr h)
        · rintro ((h | h) | h)
          · exact .inr (.inl h)
          · exact .inr (.inr h)
          · exact .inl h
      · rw [if_neg h2];simp [ih,or_assoc]
theorem acp {l:List Int} (h:Up l) (x:Int):Up (ins l x):=by
  induction l with
  | nil=>simp [ins,Up]
  | cons y r ih =>
    have hy:=(List.pairwise_cons.1 h);simp only [ins];by_cases h1:y=x
    · rw [if_pos h1];exact h
    · rw [if_neg h1]
      by_cases h2:y>x
      · rw [if_pos h2]
        refine List.pairwise_cons.2 ⟨fun z hz => ?_,h⟩;rcases List.mem_cons.1 hz with rfl | hz
        · exact h2
        · exact Int.lt_trans h2 (hy.1 z hz)
      · rw [if_neg h2]
        refine List.pairwise_cons.2 ⟨fun z hz => ?_,ih hy.2⟩;rcases (vQ r x z).1 hz with hz | rfl
        · exact hy.1 z hz
        · omega
theorem vR (l:List Int) (x:Int):(ins l x).length≤l.length+1:=by
  induction l with
  | nil=>simp [ins]
  | cons y r ih =>
    simp only [ins];split
    · simp
    · split <;> simp;omega
def plc:List Sp→List Int→List Int
  | [],p=>p
  | s :: r,p=>plc r (ins (ins p s.f0) (s.f1+1))
theorem vS (l:List Sp):∀ (p:List Int) (z:Int),z∈plc l p↔z∈p∨∃ s∈l,z=s.f0∨z=s.f1+1:=by
  induction l with
  | nil=>intro p z;simp [plc]
  | cons s r ih =>
    intro p z;simp only [plc,ih,vQ,List.mem_cons];constructor
    · rintro (((h | h) | h) | ⟨t,ht,h⟩)
      · exact .inl h
      · exact .inr ⟨s,.inl rfl,.inl h⟩
      · exact .inr ⟨s,.inl rfl,.inr h⟩
      · exact .inr ⟨t,.inr ht,h⟩
    · rintro (h | ⟨t,rfl | ht,h⟩)
      · exact .inl (.inl (.inl h))
      · rcases h with h | h
        · exact .inl (.inl (.inr h))
        · exact .inl (.inr h)
      · exact .inr ⟨t,ht,h⟩
theorem aeF (l:List Sp):∀ {p:List Int},Up p→Up (plc l p):=by
  induction l with
  | nil=>intro p h;exact h
  | cons s r ih=>intro p h;exact ih (acp (acp h _) _)
theorem zn (l:List Sp):∀ (p:List Int),(plc l p).length≤p.length+2*l.length:=by
  induction l with
  | nil=>intro p;simp [plc]
  | cons s r ih =>
    intro p;have h1:=ih (ins (ins p s.f0) (s.f1+1));have h2:=vR (ins p s.f0) (s.f1+1);have h3:=vR p s.f0;simp only [plc,List.length_cons];omega
def join (out:List Sp) (x y:Int):List Sp :=
  match out.reverse with
  | []=>[⟨x,y - 1⟩]
  | z :: o=>if z.f1=x - 1 then o.reverse++[⟨z.f0,y - 1⟩] else out++[⟨x,y - 1⟩]
theorem join_nil (x y:Int):join [] x y=[⟨x,y - 1⟩]:=rfl
theorem sU (o:List Sp) (z:Sp) (x y:Int):join (o++[z]) x y=if z.f1=x - 1 then o++[⟨z.f0,y - 1⟩] else o++[z]++[⟨x,y - 1⟩]:=by
  simp [join]
def sV (q:Int→Bool):List Sp→List Int→List Sp
  | out,x :: y :: r=>sV q (if q x then join out x y else out) (y :: r)
  | out,_=>out
theorem zo {lo hi:Int} {o:List Sp} {z:Sp}:SL lo hi (o++[z])↔SL lo hi o∧(∀ s∈o,s.f1+2≤z.f0)∧lo≤z.f0∧z.f0≤z.f1∧z.f1≤hi:=by
  induction o generalizing lo with
  | nil=>simp [SL]
  | cons t o ih =>
    simp only [List.cons_append,SL,ih,List.mem_cons];constructor
    · rintro ⟨h1,h2,h3,h4,h5,h6,h7,h8⟩
      exact ⟨⟨h1,h2,h3,h4⟩,fun s hs=>by rcases hs with rfl | hs;exact h6;exact h5 s hs,by omega,h7,h8⟩
    · rintro ⟨⟨h1,h2,h3,h4⟩,h5,h6,h7,h8⟩
      exact ⟨h1,h2,h3,h4,fun s hs=>h5 s (.inr hs),h5 t (.inl rfl),h7,h8⟩
theorem acr {lo hi:Int} {out:List Sp} {x y:Int} (hs:SL lo hi out) (hb:∀ s∈out,s.f1≤x - 1) (hx:lo≤x) (hxy:x<y) (hy:y - 1≤hi) :
    SL lo hi (join out x y)∧(∀ s∈join out x y,s.f1≤y - 1)∧∀ t,kE (join out x y) t=(kE out t || (decide (x≤t)&&decide (t<y))):=by
  have hdec:∀ t:Int,decide (t≤y - 1)=decide (t<y):=fun t=>by
    by_cases h:t<y
    · have:t≤y - 1:=by omega
      simp [h,this]
    · have:¬ t≤y - 1:=by omega
      simp [h,this]
  rcases List.eq_nil_or_concat out with rfl | ⟨o,z,rfl⟩
  · rw [join_nil]
    refine ⟨⟨hx,by show x≤y - 1;omega,hy,trivial⟩,fun s h=>by simp at h;subst h;exact Int.le_refl _,fun t => ?_⟩;simp [kE,hdec]
  · rw [List.concat_eq_append] at *
    obtain ⟨h1,h2,h3,h4,h5⟩:=zo.1 hs;have hz:=hb z (by simp);rw [sU];by_cases e:z.f1=x - 1
    · rw [if_pos e]
      refine ⟨zo.2 ⟨h1,h2,h3,by show z.f0≤y - 1;omega,hy⟩,fun s h => ?_,fun t => ?_⟩
      · simp at h
        rcases h with h | rfl
        · have:=hb s (by simp [h]);omega
        · exact Int.le_refl _
      · rw [pW,pW]
        simp only [kR,qC,Bool.or_false,hdec];rw [Bool.or_assoc];congr 1;by_cases c:t<x
        · have a1:t<y:=by omega
          have a2:t≤z.f1:=by omega
          have a3:¬ x≤t:=by omega
          simp [a1,a2,a3]
        · have a2:¬ t≤z.f1:=by omega
          have a3:x≤t:=by omega
          have a4:z.f0≤t:=by omega
          simp [a2,a3,a4]
    · rw [if_neg e]
      refine ⟨zo.2 ⟨hs,fun s h => ?_,hx,by show x≤y - 1;omega,hy⟩,fun s h => ?_,fun t => ?_⟩
      · simp at h
        rcases h with h | rfl
        · have:=h2 s h;show s.f1+2≤x;omega
        · show s.f1+2≤x;omega
      · simp at h
        rcases h with h | rfl | rfl
        · have:=hb s (by simp [h]);omega
        · have:=hb s (by simp);omega
        · exact Int.le_refl _
      · rw [pW]
        simp only [kR,qC,Bool.or_false,hdec]
theorem abd {lo hi:Int} (q:Int→Bool):∀ (p:List Int) (out:List Sp) (x:Int),Up (x :: p)→SL lo hi out→(∀ s∈out,s.f1≤x - 1)→lo≤x→(∀ z∈x :: p,z - 1≤hi) →
    (∀ t,t<x→kE out t=q t)→(∀ (u:Int),u∈x :: p→∀ t,u≤t→(∀ v,v∈x :: p→v≤u∨t<v)→q t=q u)→(∀ t,(∀ v∈x :: p,v≤t)→q t=false) →
    SL lo hi (sV q out (x :: p))∧∀ t,kE (sV q out (x :: p)) t=q t:=by
  intro p;induction p with
  | nil =>
    intro out x hu hs hb hx hh hq hc hz;refine ⟨hs,fun t => ?_⟩;by_cases h:t<x
    · exact hq t h
    · have:kE out t=false:=by
        rw [Bool.eq_false_iff];intro e;obtain ⟨s,h1,_,h2⟩:=mK.1 e;have:=hb s h1;omega
      show kE out t=q t;rw [this,hz t (fun v hv=>by simp at hv;omega)]
  | cons y r ih =>
    intro out x hu hs hb hx hh hq hc hz;obtain ⟨hu1,hu2⟩:=List.pairwise_cons.1 hu;have hxy:x<y:=hu1 y (by simp);have ab:=(List.pairwise_cons.1 hu2).1;have hseg:∀ t,x≤t→t<y→q t=q x:=fun t h1 h2=>hc x (by simp) t h1 (fun v hv=>by
      rcases List.mem_cons.1 hv with rfl | hv
      · exact .inl (Int.le_refl _)
      · rcases List.mem_cons.1 hv with rfl | hv
        · exact .inr h2
        · exact .inr (Int.lt_trans h2 (ab v hv)))
    show SL lo hi (sV q (if q x then join out x y else out) (y :: r))∧∀ t,kE (sV q (if q x then join out x y else out) (y :: r)) t=q t;have common:∀ out':List Sp,SL lo hi out'→(∀ s∈out',s.f1≤y - 1)→(∀ t,t<y→kE out' t=q t)→SL lo hi (sV q out' (y :: r))∧∀ t,kE (sV q out' (y :: r)) t=q t:=by
      intro out' a1 a2 a3;refine ih out' y hu2 a1 a2 (by omega) (fun z hz'=>hh z (by simp at hz' ⊢;exact .inr hz')) a3 (fun u hu' t h1 h2=>hc u (by simp at hu' ⊢;exact .inr hu') t h1 (fun v hv => ?_)) (fun t ht=>hz t (fun v hv => ?_))
      · rcases List.mem_cons.1 hv with rfl | hv
        · refine .inl ?_
          rcases List.mem_cons.1 hu' with rfl | hu'
          · omega
          · have:=ab u hu';omega
        · exact h2 v hv
      · rcases List.mem_cons.1 hv with rfl | hv
        · have:=ht y (by simp);omega
        · exact ht v hv
    by_cases aa:q x=true
    · rw [if_pos aa]
      obtain ⟨j1,j2,j3⟩:=acr hs hb hx hxy (hh y (by simp));refine common _ j1 j2 (fun t ht => ?_);rw [j3];by_cases c:t<x
      · have:¬ x≤t:=by omega
        rw [hq t c];simp [this]
      · have:x≤t:=by omega
        rw [hseg t this ht,aa];simp [this,ht]
    · rw [if_neg aa]
      refine common _ hs (fun s h=>by have:=hb s h;omega) (fun t ht => ?_);by_cases c:t<x
      · exact hq t c
      · rw [hseg t (by omega) ht]
        have h1:q x=false:=by simpa using aa
        have h2:kE out t=false:=by
          rw [Bool.eq_false_iff];intro e;obtain ⟨s,h1,_,h2⟩:=mK.1 e;have:=hb s h1;omega
        rw [h1,h2]
theorem xV {a:List Sp} {u t:Int} (p:List Int) (hp:∀ s∈a,s.f0∈p∧s.f1+1∈p) (hut:u≤t) (h:∀ v∈p,v≤u∨t<v):kE a t=kE a u:=by
  induction a with
  | nil=>rfl
  | cons s a ih =>
    rw [kR,kR,ih (fun s' hs'=>hp s' (by simp [hs']))];obtain ⟨h1,h2⟩:=hp s (by simp);have e1:decide (s.f0≤t)=decide (s.f0≤u):=by
      rcases h _ h1 with h | h
      · have a:s.f0≤t:=by omega
        simp [h,a]
      · have a:¬ s.f0≤t:=by omega
        have b:¬ s.f0≤u:=by omega
        simp [a,b]
    have e2:decide (t≤s.f1)=decide (u≤s.f1):=by
      rcases h _ h2 with h | h
      · have a:¬ t≤s.f1:=by omega
        have b:¬ u≤s.f1:=by omega
        simp [a,b]
      · have a:t≤s.f1:=by omega
        have b:u≤s.f1:=by omega
        simp [a,b]
    rw [e1,e2]
theorem zq (yes:Bool→Bool→Bool) (hy:yes false false=false) {lo hi:Int} {a b:List Sp} (ha:∀ s∈a,lo≤s.f0∧s.f0≤s.f1∧s.f1≤hi) (hb:∀ s∈b,lo≤s.f0∧s.f0≤s.f1∧s.f1≤hi) :
    SL lo hi (sV (fun x=>yes (kE a x) (kE b x)) [] (plc b (plc a [])))∧∀ t,kE (sV (fun x=>yes (kE a x) (kE b x)) [] (plc b (plc a []))) t=yes (kE a t) (kE b t):=by
  have hup:Up (plc b (plc a [])):=aeF b (aeF a List.Pairwise.nil);have hmem:∀ z,z∈plc b (plc a [])↔(∃ s∈a,z=s.f0∨z=s.f1+1)∨∃ s∈b,z=s.f0∨z=s.f1+1:=fun z=>by rw [vS,vS];simp
  have hpa:∀ s∈a,s.f0∈plc b (plc a [])∧s.f1+1∈plc b (plc a []):=fun s hs=>⟨(hmem _).2 (.inl ⟨s,hs,.inl rfl⟩),(hmem _).2 (.inl ⟨s,hs,.inr rfl⟩)⟩;have hpb:∀ s∈b,s.f0∈plc b (plc a [])∧s.f1+1∈plc b (plc a []):=fun s hs=>⟨(hmem _).2 (.inr ⟨s,hs,.inl rfl⟩),(hmem _).2 (.inr ⟨s,hs,.inr rfl⟩)⟩;have hout:∀ {a:List Sp} {p:List Int},(∀ s∈a,s.f0∈p∧s.f1+1∈p)→∀ t,((∀ v∈p,v≤t)∨∀ v∈p,t<v)→kE a t=false:=by
    intro a p h t ht;rw [Bool.eq_false_iff];intro e;obtain ⟨s,h1,h2,h3⟩:=mK.1 e;obtain ⟨h4,h5⟩:=h s h1;rcases ht with ht | ht
    · have:=ht _ h5;omega
    · have:=ht _ h4;omega
  have hrange:∀ z∈plc b (plc a []),lo≤z∧z - 1≤hi:=by
    intro z hz;rcases (hmem z).1 hz with ⟨s,hs,h⟩ | ⟨s,hs,h⟩
    · have:=ha s hs;rcases h with rfl | rfl <;> omega
    · have:=hb s hs;rcases h with rfl | rfl <;> omega
  cases hp:plc b (plc a []) with
  | nil =>
    have ea:∀ t,kE a t=false:=fun t=>hout hpa t (.inl (by rw [hp];simp));have eb:∀ t,kE b t=false:=fun t=>hout hpb t (.inl (by rw [hp];simp));refine ⟨trivial,fun t => ?_⟩;rw [ea,eb,hy];rfl
  | cons x p =>
    rw [hp] at hup hpa hpb hrange;refine abd _ p [] x hup trivial (by simp) (hrange x (by simp)).1 (fun z hz=>(hrange z hz).2) (fun t ht => ?_) (fun u hu t h1 h2 => ?_) (fun t ht => ?_)
    · have hlt:∀ v∈x :: p,t<v:=fun v hv=>by
        rcases List.mem_cons.1 hv with rfl | hv
        · exact ht
        · exact Int.lt_trans ht ((List.pairwise_cons.1 hup).1 v hv)
      rw [hout hpa t (.inr hlt),hout hpb t (.inr hlt),hy];rfl
    · rw [xV _ hpa h1 h2,xV _ hpb h1 h2]
    · rw [hout hpa t (.inl ht),hout hpb t (.inl ht),hy]
end Go.Proofs.YtongeknogcboiaaGreat.P
namespace Go.Proofs.YtongeknogcboiaaGreat.P
set_option linter.unusedVariables false
set_option linter.unusedSimpArgs false
open Go.RowKit Go.ChangeShapes Go.WideShapes Go.Deep Go.Proofs.YtongeknogcboiaaGreatW.gq
def fits (n:Int):Prop:=(Lit.int .i64 n).wf=true
def sW (s:Sp):Prop:=fits s.f0∧fits s.f1
end Go.Proofs.YtongeknogcboiaaGreat.P
namespace Go.Proofs.YtongeknogcboiaaGreat.P
set_option linter.unusedVariables false
set_option linter.unusedSimpArgs false
open Go.RowKit Go.ChangeShapes Go.WideShapes Go.Deep Go.Proofs.YtongeknogcboiaaGreatW.gq Go.Proofs.YtongeknogcboiaaGreatW.iR
theorem abA {cs:List Value} (h:cs.length=2):∃ a b,cs=[a,b]:=by
  match cs,h with
  | [a,b],_=>exact ⟨a,b,rfl⟩
theorem abB {cs:List Value} (h:cs.length=4):∃ a b c d,cs=[a,b,c,d]:=by
  match cs,h with
  | [a,b,c,d],_=>exact ⟨a,b,c,d,rfl⟩
theorem zu {T:Type} (k:Kd T) {H:Type} {enc:TypeId × Value→H} {w:World} {base:Nat} {held:Bool} {t e:TypeId} {fuel:Nat} {cs:List Value} {x:DataW H × List MemPlace}
    (ht:Tryz.prog.underlying t=some (.slice e)) (hn:Tryz.prog.cellsOf e=k.sz) (Q:T→Prop)
    (op:∀ fuel cs x,DataW.trod enc Tryz.prog w base (fun _=>true) held fuel e cs=some x→∃ v,k.K w v cs∧Q v)
    (h:DataW.trod enc Tryz.prog w base (fun _=>true) held fuel t cs=some x) :
    ∃ (a:Option Addr) (cap:Nat) (l:List T),cs=[.slice a l.length cap]∧l.length≤cap∧Kd.C k w a l.length l∧(∀ s∈l,Q s)∧l.length≤9223372036854775807:=by
  rcases open_slice ht h with ⟨hc,_⟩ | ⟨a,len,cap,m,n,D,Pl,hc,hb,hl,hm,hmm,hx,hi⟩
  · exact ⟨none,0,[],by rw [hc];rfl,Nat.le_refl _,⟨rfl,by simp,fun h=>absurd h (by simp)⟩,by simp,by simp⟩
  · have hlm:len≤m:=by rw [hmm];simpa using hl
    have hk:∀ i,i<len→∃ v cs',k.K w v cs'∧Q v∧∀ j u,cs'[j]? = some u→w.cell? (a.add (i*k.sz+j))=some u:=by
      intro i hi';obtain ⟨cs',h1,h2⟩:=hi i (by omega);rw [hn] at h1;obtain ⟨_,hlen,hcell⟩:=World.cells?_some h1;obtain ⟨v,v1,v2⟩:=op _ _ _ h2;refine ⟨v,cs',v1,v2,fun j u hu => ?_⟩;have hj:j<k.sz:=by rw [← hlen];exact (List.getElem?_eq_some_iff.1 hu).1
      have:=hcell j hj;rw [Deep.add_add] at this;rw [this,hu]
    have hmax:len≤9223372036854775807:=by unfold maxLen at hm;omega
    suffices key:∀ q,q≤len→∃ l:List T,l.length=q∧(∀ j s,l[j]? = some s→∃ cs',k.K w s cs'∧∀ i u,cs'[i]? = some u→w.cell? (a.add (j*k.sz+i))=some u)∧∀ s∈l,Q s by
      obtain ⟨l,rfl,hl2,hfit⟩:=key len (Nat.le_refl _);refine ⟨some a,cap,l,hc,hl,⟨rfl,hmax,fun _=>⟨a,rfl,fun j s hj => ?_⟩⟩,hfit,hmax⟩;obtain ⟨cs',g1,g2⟩:=hl2 j s hj;exact ⟨cs',k.nP g1,g1,g2⟩
    intro q;induction q with
    | zero=>exact fun _=>⟨[],rfl,fun j s h=>by simp at h,by simp⟩
    | succ q ih =>
      intro hk';obtain ⟨l,hl1,hl2,hl3⟩:=ih (by omega);obtain ⟨s,cs',h0,h1,h2⟩:=hk q (by omega);refine ⟨l++[s],by simp [hl1],fun j t hj => ?_,fun t ht => ?_⟩
      · by_cases hjk:j<l.length
        · rw [List.getElem?_append_left hjk] at hj;exact hl2 j t hj
        · rw [List.getElem?_append_right (by omega)] at hj
          have:j - l.length=0:=by
            by_cases e:j - l.length=0
            · exact e
            · rw [List.getElem?_eq_none (by simp;omega)] at hj;cases hj
          rw [this] at hj;simp at hj;subst hj;have:j=q:=by omega
          subst this;exact ⟨cs',h0,h2⟩
      · simp at ht
        rcases ht with ht | rfl
        · exact hl3 t ht
        · exact h1
section
variable {H:Type} {enc:TypeId × Value→H} {w:World} {base:Nat} {held:Bool} {fuel:Nat} {cs:List Value} {x:DataW H × List MemPlace}
theorem oJ (h:DataW.trod enc Tryz.prog w base (fun _=>true) held fuel 3 cs=some x):∃ n,cs=[.int .i64 n]∧fits n:=by
  obtain ⟨n,e0,_,w0⟩:=DataW.trod_int Tryz.underlying3 h;exact ⟨n,e0,w0⟩
theorem afJ (h:DataW.trod enc Tryz.prog w base (fun _=>true) held fuel 41 cs=some x):∃ s:Sp,k41.K w s cs∧sW s:=by
  obtain ⟨xs,n,_,_,hl,hxs,hf⟩:=DataW.trod_struct Tryz.underlying41 h;have e9:Tryz.prog.cellsOf 41=2:=by kernel_rfl
  rw [e9] at hl;have hl2:cs.length=2:=hl;clear hl e9;obtain ⟨v0,v1,rfl⟩:=abA hl2;have g0:DataW.trod enc Tryz.prog w base (fun _=>true) held n 3 (List.take (Tryz.prog.cellsOf 3) (List.drop 0 [v0,v1]))=xs[0]? := hf 0 _ rfl;rw [show Tryz.prog.cellsOf 3=1 by kernel_rfl] at g0;have g1:DataW.trod enc Tryz.prog w base (fun _=>true) held n 3 (List.take (Tryz.prog.cellsOf 3) (List.drop 1 [v0,v1]))=xs[1]? := hf 1 _ rfl;rw [show Tryz.prog.cellsOf 3=1 by kernel_rfl] at g1;cases hx0:xs[0]? with
  | none=>have:=List.getElem?_eq_none_iff.1 hx0;rw [hxs] at this;exact absurd this (by decide)
  | some y0 =>
    cases hx1:xs[1]? with
    | none=>have:=List.getElem?_eq_none_iff.1 hx1;rw [hxs] at this;exact absurd this (by decide)
    | some y1 =>
      rw [hx0] at g0;rw [hx1] at g1;obtain ⟨a,ea,wa⟩:=oJ g0;obtain ⟨b,eb,wb⟩:=oJ g1;have aa:[v0]=[.int .i64 a]:=ea;have eb':[v1]=[.int .i64 b]:=eb;injection aa with aa
      injection eb' with eb'
      subst aa eb';exact ⟨⟨a,b⟩,agn w ⟨a,b⟩,wa,wb⟩
theorem aas (h:DataW.trod enc Tryz.prog w base (fun _=>true) held fuel 28 cs=some x):∃ (a:Option Addr) (cap:Nat) (l:List Sp),cs=[.slice a l.length cap]∧l.length≤cap∧Kd.C k41 w a l.length l∧(∀ s∈l,sW s)∧l.length≤9223372036854775807 :=
  zu k41 Tryz.underlying28 (by kernel_rfl) sW (fun _ _ _ g=>afJ g) h
theorem acs (h:DataW.trod enc Tryz.prog w base (fun _=>true) held fuel 28 cs=some x):∃ l:List Sp,(Kd.slice 41 k41).K w l cs∧((∀ s∈l,sW s)∧l.length≤9223372036854775807):=by
  obtain ⟨a,cap,l,rfl,h1,h2,h3,h4⟩:=aas h;exact ⟨l,⟨a,cap,rfl,h1,h2⟩,h3,h4⟩
theorem acu (h:DataW.trod enc Tryz.prog w base (fun _=>true) held fuel 22 cs=some x):∃ (a:Option Addr) (cap:Nat) (l:List (List Sp)),cs=[.slice a l.length cap]∧l.length≤cap∧Kd.C (Kd.slice 41 k41) w a l.length l∧(∀ s∈l,(∀ z∈s,sW z)∧s.length≤9223372036854775807)∧l.length≤9223372036854775807 :=
  zu (Kd.slice 41 k41) Tryz.underlying22 (by kernel_rfl) _ (fun _ _ _ g=>acs g) h
def aat (g:S43):Prop:=fits g.f0∧(∀ z∈g.f1,sW z)∧g.f1.length≤9223372036854775807
theorem afK (h:DataW.trod enc Tryz.prog w base (fun _=>true) held fuel 43 cs=some x):∃ g:S43,k43.K w g cs∧aat g:=by
  obtain ⟨xs,n,_,_,hl,hxs,hf⟩:=DataW.trod_struct Tryz.underlying43 h;have e9:Tryz.prog.cellsOf 43=2:=by kernel_rfl
  rw [e9] at hl;have hl2:cs.length=2:=hl;clear hl e9;obtain ⟨v0,v1,rfl⟩:=abA hl2;have g0:DataW.trod enc Tryz.prog w base (fun _=>true) held n 3 (List.take (Tryz.prog.cellsOf 3) (List.drop 0 [v0,v1]))=xs[0]? := hf 0 _ rfl;rw [show Tryz.prog.cellsOf 3=1 by kernel_rfl] at g0;have g1:DataW.trod enc Tryz.prog w base (fun _=>true) held n 28 (List.take (Tryz.prog.cellsOf 28) (List.drop 1 [v0,v1]))=xs[1]? := hf 1 _ rfl;rw [show Tryz.prog.cellsOf 28=1 by kernel_rfl] at g1;cases hx0:xs[0]? with
  | none=>have:=List.getElem?_eq_none_iff.1 hx0;rw [hxs] at this;exact absurd this (by decide)
  | some y0 =>
    cases hx1:xs[1]? with
    | none=>have:=List.getElem?_eq_none_iff.1 hx1;rw [hxs] at this;exact absurd this (by decide)
    | some y1 =>
      rw [hx0] at g0;rw [hx1] at g1;obtain ⟨a,ea,wa⟩:=oJ g0;obtain ⟨b,cap,l,eb,l1,l2,l3,l4⟩:=aas g1;have aa:[v0]=[.int .i64 a]:=ea;have eb':[v1]=[.slice b l.length cap]:=eb;injection aa with aa
      injection eb' with eb'
      subst aa eb';exact ⟨⟨a,l⟩,agp w ⟨a,l⟩ l1 l2,wa,l3,l4⟩
theorem ad6 (h:DataW.trod enc Tryz.prog w base (fun _=>true) held fuel 23 cs=some x):∃ (a:Option Addr) (cap:Nat) (l:List S43),cs=[.slice a l.length cap]∧l.length≤cap∧Kd.C k43 w a l.length l∧(∀ s∈l,aat s)∧l.length≤9223372036854775807 :=
  zu k43 Tryz.underlying23 (by kernel_rfl) aat (fun _ _ _ g=>afK g) h
structure acv (p c:Int) (core:List (List Sp)) (odd:List S43):Prop where
  fp:fits p
  fc:fits c
  ah8:∀ l∈core,(∀ z∈l,sW z)∧l.length≤9223372036854775807
  ajs:∀ g∈odd,aat g
  lc:core.length≤9223372036854775807
  lo:odd.length≤9223372036854775807
set_option maxRecDepth 200000 in
theorem xW {b0:Nat} {v:Value} {d:DataW H} {ps:List MemPlace} (hv:Value.okWide Tryz.prog w .any b0 25 v) (h:DataW.Trod enc Tryz.prog w base (fun _=>true) held 25 v d ps) :
    ∃ (p c:Int) (A2:Option Addr) (c2:Nat) (core:List (List Sp)) (A3:Option Addr) (c3:Nat) (odd:List S43),v=.agg #[.int .i64 p,.int .i64 c,.slice A2 core.length c2,.slice A3 odd.length c3] ∧
      Kd.C (Kd.slice 41 k41) w A2 core.length core∧core.length≤c2∧Kd.C k43 w A3 odd.length odd∧odd.length≤c3∧acv p c core odd:=by
  have hq:=okWide_struct (P:=Tryz.prog) (w:=w) (r:=.any) (base:=b0) (t:=25) (v:=v) Tryz.underlying25;have hq2:=hq hv;obtain ⟨cs,rfl,hsz⟩:=hq2;obtain ⟨fuel,h⟩:=h;obtain ⟨xs,n,_,_,hl,hxs,hf⟩:=DataW.trod_struct Tryz.underlying25 h;have e9:Tryz.prog.cellsOf 25=4:=by kernel_rfl
  rw [e9] at hl;have hl2:cs.toList.length=4:=hl;clear hl e9;obtain ⟨l⟩:=cs;obtain ⟨v0,v1,v2,v3,rfl⟩:=abB hl2;have g0:DataW.trod enc Tryz.prog w base (fun _=>true) held n 3 (List.take (Tryz.prog.cellsOf 3) (List.drop 0 [v0,v1,v2,v3]))=xs[0]? := hf 0 _ rfl;rw [show Tryz.prog.cellsOf 3=1 by kernel_rfl] at g0;have g1:DataW.trod enc Tryz.prog w base (fun _=>true) held n 3 (List.take (Tryz.prog.cellsOf 3) (List.drop 1 [v0,v1,v2,v3]))=xs[1]? := hf 1 _ rfl;rw [show Tryz.prog.cellsOf 3=1 by kernel_rfl] at g1;have g2:DataW.trod enc Tryz.prog w base (fun _=>true) held n 22 (List.take (Tryz.prog.cellsOf 22) (List.drop 2 [v0,v1,v2,v3]))=xs[2]? := hf 2 _ rfl;rw [show Tryz.prog.cellsOf 22=1 by kernel_rfl] at g2;have g3:DataW.trod enc Tryz.prog w base (fun _=>true) held n 23 (List.take (Tryz.prog.cellsOf 23) (List.drop 3 [v0,v1,v2,v3]))=xs[3]? := hf 3 _ rfl;rw [show Tryz.prog.cellsOf 23=1 by kernel_rfl] at g3;have hx:∀ j,j<4→∃ y,xs[j]? = some y:=fun j hj=>⟨_,List.getElem?_eq_getElem (by rw [hxs];exact hj)⟩;obtain ⟨y0,e0⟩:=hx 0 (by omega);obtain ⟨y1,e1⟩:=hx 1 (by omega);obtain ⟨y2,e2⟩:=hx 2 (by omega);obtain ⟨y3,e3⟩:=hx 3 (by omega);rw [e0] at g0;rw [e1] at g1;rw [e2] at g2;rw [e3] at g3;obtain ⟨p,ep,wp⟩:=oJ g0;obtain ⟨c,ec,wc⟩:=oJ g1;obtain ⟨A2,c2,core,e2',l1,l2,l3,l4⟩:=acu g2;obtain ⟨A3,c3,odd,e3',m1,m2,m3,m4⟩:=ad6 g3;have ac:[v0]=[.int .i64 p]:=ep;have af:[v1]=[.int .i64 c]:=ec;have aa:[v2]=[.slice A2 core.length c2]:=e2';have ab:[v3]=[.slice A3 odd.length c3]:=e3';injection ac with ac
  injection af with af
  injection aa with aa
  injection ab with ab
  subst ac af aa ab;exact ⟨p,c,A2,c2,core,A3,c3,odd,rfl,l2,l1,m2,m1,⟨wp,wc,l3,m3,l4,m4⟩⟩
end
end Go.Proofs.YtongeknogcboiaaGreat.P
