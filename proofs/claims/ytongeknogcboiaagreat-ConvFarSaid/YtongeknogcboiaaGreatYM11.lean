/- Lemmas for laws of chapter 7: what the functions that they reach compute. No condition of its own. -/
import Derived.Test.YtongeknogcboiaaGreatYM9
import Derived.Test.YtongeknogcboiaaGreatYM10
namespace Go.Proofs.YtongeknogcboiaaGreat.R
open M Go.RowKit Go.Proofs.YtongeknogcboiaaGreatW.fK Go.Proofs.YtongeknogcboiaaGreatW.gN Go.Proofs.YtongeknogcboiaaGreatW.iC
set_option linter.unusedVariables false
variable [Inhabited WT]
section
variable {γ:Type} (X0:Int→Option γ) (X1:Option γ) (c1:List (List P.S41)) (c2:Int)
noncomputable def gX.l0T (R:Int→Option γ) (k:Nat) (v3:Int):Option γ:=(if (decide (v3<c2))=true then (if 0≤v3 then (if v3<(c1.length:Int) then ((jq.f k (gL c1 v3)).bind fun t3=>(if t3=true then (X0 v3) else (R (wq (v3+1))))) else none) else none) else X1)
noncomputable def gX.l0:Nat→Int→Option γ
  | 0=>(fun _=>none)
  | k+1=>(fun v3=>(gX.l0T X0 X1 c1 c2 (gX.l0 k) k v3))
end
noncomputable def gX.f (k:Nat) (ab:Int) (ac:Int) (aa:List (List P.S41)) (af:List P.S43):Option (Bool):=(gX.l0 (fun y4=>(some (!(decide (y4≥0))))) (some true) aa (aa.length:Int) k 0)
section
variable {γ:Type} (X0:Option γ) (X1:Option γ) (c1:List P.S41) (c2:List P.S41) (c3:Int) (c5:Int)
noncomputable def gK.l0T (R:Int→Option γ) (k:Nat) (v4:Int):Option γ:=(if (decide (v4<c3))=true then (if 0≤v4 then (if v4<(c2.length:Int) then (if 0≤v4 then (if v4<(c1.length:Int) then (if (decide ((wq ((gS c1 v4).f0 - (gS c2 v4).f0))=c5))=true then (if (!(decide ((wq ((gS c1 v4).f1 - (gS c2 v4).f1))=c5)))=true then X0 else (R (wq (v4+1)))) else X0) else none) else none) else none) else none) else X1)
noncomputable def gK.l0:Nat→Int→Option γ
  | 0=>(fun _=>none)
  | k+1=>(fun v4=>(gK.l0T X0 X1 c1 c2 c3 c5 (gK.l0 k) k v4))
end
noncomputable def gK.f (k:Nat) (a0:List P.S41) (a1:List P.S41) (a2:Int):Option (Bool):=(if (!(decide ((a0.length:Int)=(a1.length:Int))))=true then (some false) else (gK.l0 (some false) (some true) a1 a0 (a0.length:Int) a2 k 0))
section
variable {γ:Type} (X0:Option γ) (X1:Option γ) (c1:Int) (c2:Int) (c3:List (List P.S41)) (c4:Int) (c6:Int) (c7:Int) (c8:List (List P.S41))
noncomputable def gY.l0T (R:Int→Option γ) (k:Nat) (v5:Int):Option γ:=(if (decide (v5<c4))=true then (if 0≤v5 then (if v5<(c3.length:Int) then (if (decide ((wq (v5+c1))≥c7))=true then (if 0≤(wq ((wq (v5+c1)) - c7)) then (if (wq ((wq (v5+c1)) - c7))<(c8.length:Int) then ((gK.f k (gL c3 v5) (gL c8 (wq ((wq (v5+c1)) - c7))) (wq (c2 - c6))).bind fun t5=>(if (!t5)=true then X0 else (R (wq (v5+1))))) else none) else none) else (if 0≤(wq (v5+c1)) then (if (wq (v5+c1))<(c8.length:Int) then ((gK.f k (gL c3 v5) (gL c8 (wq (v5+c1))) (wq (c2 - 0))).bind fun t6=>(if (!t6)=true then X0 else (R (wq (v5+1))))) else none) else none)) else none) else none) else X1)
noncomputable def gY.l0:Nat→Int→Option γ
  | 0=>(fun _=>none)
  | k+1=>(fun v5=>(gY.l0T X0 X1 c1 c2 c3 c4 c6 c7 c8 (gY.l0 k) k v5))
end
noncomputable def gY.f (k:Nat) (ab:Int) (ac:Int) (aa:List (List P.S41)) (af:List P.S43) (a1:Int) (a2:Int):Option (Bool):=(gY.l0 (some false) (some true) a1 a2 aa (aa.length:Int) ab ac aa k 0)
section
variable {γ:Type} (Y0:Int→Int→Int→(List (List P.S41))→(List P.S43)→Int→(Int→Int→(List (List P.S41))→(List P.S43)→Int→Option γ)→(Int→Int→(List (List P.S41))→(List P.S43)→Int→Int→(List (List P.S41))→Int→Option γ)→Option γ) (X0:Int→Int→(List (List P.S41))→(List P.S43)→Int→Int→(List (List P.S41))→Int→Option γ) (X1:Int→Int→(List (List P.S41))→(List P.S43)→Int→Option γ)
noncomputable def fQ.l0T (R:Int→Int→Int→(List (List P.S41))→(List P.S43)→Int→Option γ) (k:Nat) (v1:Int) (v2:Int) (v3:Int) (v4:List (List P.S41)) (v5:List P.S43) (v6:Int):Option γ:=(if (decide (v1≤v6))=true then (if v1=0 then none else (if (decide ((Int.tmod v6 v1)=0))=true then (Y0 v1 v2 v3 v4 v5 v6 (fun z46 z47 z48 z49 z50=>(R (wq (v1+1)) z46 z47 z48 z49 z50)) X0) else (R (wq (v1+1)) v2 v3 v4 v5 v6))) else (X1 v2 v3 v4 v5 v6))
noncomputable def fQ.l0:Nat→Int→Int→Int→(List (List P.S41))→(List P.S43)→Int→Option γ
  | 0=>(fun _ _ _ _ _ _=>none)
  | k+1=>(fun v1 v2 v3 v4 v5 v6=>(fQ.l0T Y0 X0 X1 (fQ.l0 k) k v1 v2 v3 v4 v5 v6))
end
section
variable {γ:Type} (X0:(List (List P.S41))→Option γ) (c1:List (List P.S41)) (c2:Int)
noncomputable def fQ.l1T (R:Int→(List (List P.S41))→Option γ) (k:Nat) (v3:Int) (v10:List (List P.S41)):Option γ:=(if (decide (v3<c2))=true then (if 0≤v3 then (if v3<(c1.length:Int) then ((iy.f k (gL c1 v3)).bind fun t82=>(if v10.length+1≤5864062014805 then (R (wq (v3+1)) (v10++[t82])) else none)) else none) else none) else (X0 v10))
noncomputable def fQ.l1:Nat→Int→(List (List P.S41))→Option γ
  | 0=>(fun _ _=>none)
  | k+1=>(fun v3 v10=>(fQ.l1T X0 c1 c2 (fQ.l1 k) k v3 v10))
end
noncomputable def fQ.f (k:Nat) (aj:Int) (ah:Int) (ak:List (List P.S41)) (al:List P.S43):Option (P.S25):=((gX.f k aj ah ak al).bind fun t1=>(if t1=true then (some (⟨0,0,[],[]⟩:P.S25)) else (fQ.l0 (fun aa ac af ab ai am x0 x1=>(if aa=0 then none else ((iI.f k ac (wq (Int.tdiv af aa))).bind fun t78=>(if (!(decide (t78.2.1=0)))=true then (x0 ac af ab ai am) else ((gY.f k ac af ab ai aa t78.1).bind fun t79=>(if (!t79)=true then (x0 ac af ab ai am) else (if 0≤aa then (if aa≤(ab.length:Int) then (fQ.l1 (fun ao=>(x1 ac af ab ai t78.1 aa ao am)) (ab.take (Int.toNat aa)) ((ab.take (Int.toNat aa)).length:Int) k 0 []) else none) else none))))))) (fun aw ax ay az ap aq au aA=>(some (⟨ap,aq,au,[]⟩:P.S25))) (fun aB aC aD aE aF=>(some (⟨0,0,[],[]⟩:P.S25))) k 1 aj ah ak al ah)))
section
variable {γ:Type} (X0:Option γ) (X1:Option γ) (c1:List P.S41) (c2:List P.S41) (c3:Int)
noncomputable def fJ.l0T (R:Int→Option γ) (k:Nat) (v4:Int):Option γ:=(if (decide (v4<c3))=true then (if 0≤v4 then (if v4<(c1.length:Int) then (if 0≤v4 then (if v4<(c2.length:Int) then (if (!(((gS c1 v4).f0==(gS c2 v4).f0)&&((gS c1 v4).f1==(gS c2 v4).f1)))=true then X0 else (R (wq (v4+1)))) else none) else none) else none) else none) else X1)
noncomputable def fJ.l0:Nat→Int→Option γ
  | 0=>(fun _=>none)
  | k+1=>(fun v4=>(fJ.l0T X0 X1 c1 c2 c3 (fJ.l0 k) k v4))
end
noncomputable def fJ.f (k:Nat) (a0:List P.S41) (a1:List P.S41):Option (Bool):=(if (!(decide ((a0.length:Int)=(a1.length:Int))))=true then (some false) else (fJ.l0 (some false) (some true) a0 a1 (a0.length:Int) k 0))
noncomputable def jP.f (k:Nat) (a0:List P.S41) (a1:List P.S41):Option (Bool):=((fJ.f k a0 a1).bind fun t1=>(some t1))
noncomputable def jG.f (k:Nat) (aa:Int) (ab:Int) (ac:List (List P.S41)) (af:List P.S43) (ah:Int) (ai:List P.S41):Option (Bool):=((iM.f k aa ab ac af ah).bind fun t1=>(if (decide (t1.2=0))=true then ((jP.f k t1.1 ai).bind fun t2=>(some t2)) else (some false)))
section
variable {γ:Type} (X0:(List P.S43)→Option γ) (c2:List P.S43) (c3:Int) (c9:Int) (c10:Int) (c11:List (List P.S41)) (c12:List P.S43)
noncomputable def iq.l0T (R:(List P.S43)→Int→Option γ) (k:Nat) (v1:List P.S43) (v4:Int):Option γ:=(if (decide (v4<c3))=true then (if 0≤v4 then (if v4<(c2.length:Int) then ((jG.f k c9 c10 c11 c12 (gG c2 v4).f0 (gG c2 v4).f1).bind fun t6=>(if (!t6)=true then ((iy.f k (gG c2 v4).f1).bind fun t7=>(if v1.length+1≤4398046511104 then (R (v1++[(⟨(gG c2 v4).f0,t7⟩:P.S43)]) (wq (v4+1))) else none)) else (R v1 (wq (v4+1))))) else none) else none) else (X0 v1))
noncomputable def iq.l0:Nat→(List P.S43)→Int→Option γ
  | 0=>(fun _ _=>none)
  | k+1=>(fun v1 v4=>(iq.l0T X0 c2 c3 c9 c10 c11 c12 (iq.l0 k) k v1 v4))
end
noncomputable def iq.f (k:Nat) (ab:Int) (ac:Int) (af:List (List P.S41)) (aa:List P.S43):Option (P.S25):=((fQ.f k ab ac af aa).bind fun t1=>(iq.l0 (fun y8=>(some (⟨t1.f0,t1.f1,t1.f2,y8⟩:P.S25))) aa (aa.length:Int) t1.f0 t1.f1 t1.f2 t1.f3 k [] 0))
noncomputable def jl.f (k:Nat) (aa:Int) (ab:Int) (ac:List (List P.S41)) (af:List P.S43):Option (P.S25 × Int):=((gF.f k aa ab ac af).bind fun t1=>(if (decide (t1=0))=true then ((iq.f k aa ab ac af).bind fun t2=>(some (t2,0))) else (if (decide (t1=3))=true then (some ((⟨0,0,[],[]⟩:P.S25),3)) else (some ((⟨0,0,[],[]⟩:P.S25),20)))))
section
variable {γ:Type} (Y0:(List P.S41)→Int→Int→Int→(List (List P.S41))→(List P.S43)→Int→Int→(List (List P.S41))→(List P.S43)→Int→(List P.S41)→(List P.S41)→Int→Int→(Int→Int→(List (List P.S41))→(List P.S43)→Int→Int→(List (List P.S41))→(List P.S43)→Int→(List P.S41)→Int→(List P.S41)→Int→Int→Option γ)→(Int→Int→(List (List P.S41))→(List P.S43)→Int→Int→(List (List P.S41))→(List P.S43)→Int→(List P.S41)→(List P.S41)→Int→Int→Option γ)→Option γ) (X0:Int→Int→(List (List P.S41))→(List P.S43)→Int→Int→(List (List P.S41))→(List P.S43)→Int→(List P.S41)→Int→(List P.S41)→Int→Int→Option γ) (X1:Int→Int→(List (List P.S41))→(List P.S43)→Int→Int→(List (List P.S41))→(List P.S43)→Int→(List P.S41)→(List P.S41)→Int→Int→Option γ) (c1:Int)
noncomputable def fu.l1T (R:Int→Int→Int→(List (List P.S41))→(List P.S43)→Int→Int→(List (List P.S41))→(List P.S43)→Int→(List P.S41)→(List P.S41)→Int→Int→Option γ) (k:Nat) (v2:Int) (v3:Int) (v4:Int) (v5:List (List P.S41)) (v6:List P.S43) (v7:Int) (v8:Int) (v9:List (List P.S41)) (v10:List P.S43) (v11:Int) (v12:List P.S41) (v13:List P.S41) (v14:Int) (v15:Int):Option γ:=(if (decide (v2<c1))=true then ((iM.f k v3 v4 v5 v6 (wq (v14+v2))).bind fun aa=>(Y0 aa.1 aa.2 v3 v4 v5 v6 v7 v8 v9 v10 v11 v12 v13 v14 v15 X0 (fun ab ac af ah ai aj ak al am ao ap aq au=>(R (wq (v2+1)) ab ac af ah ai aj ak al am ao ap aq au)))) else (X1 v3 v4 v5 v6 v7 v8 v9 v10 v11 v12 v13 v14 v15))
noncomputable def fu.l1:Nat→Int→Int→Int→(List (List P.S41))→(List P.S43)→Int→Int→(List (List P.S41))→(List P.S43)→Int→(List P.S41)→(List P.S41)→Int→Int→Option γ
  | 0=>(fun _ _ _ _ _ _ _ _ _ _ _ _ _ _=>none)
  | k+1=>(fun v2 v3 v4 v5 v6 v7 v8 v9 v10 v11 v12 v13 v14 v15=>(fu.l1T Y0 X0 X1 c1 (fu.l1 k) k v2 v3 v4 v5 v6 v7 v8 v9 v10 v11 v12 v13 v14 v15))
end
section
variable {γ:Type} (X0:Int→Int→(List (List P.S41))→(List P.S43)→Int→Int→(List (List P.S41))→(List P.S43)→Option γ) (X1:Int→Int→(List (List P.S41))→(List P.S43)→Int→Int→(List (List P.S41))→(List P.S43)→Option γ) (c1:Int) (c2:List P.S43) (c3:Int)
noncomputable def fu.l0T (R:Int→Int→Int→(List (List P.S41))→(List P.S43)→Int→Int→(List (List P.S41))→(List P.S43)→Option γ) (k:Nat) (v4:Int) (v5:Int) (v6:Int) (v7:List (List P.S41)) (v8:List P.S43) (v9:Int) (v10:Int) (v11:List (List P.S41)) (v12:List P.S43):Option γ:=(if (decide (v4<c3))=true then (if 0≤v4 then (if v4<(c2.length:Int) then ((iI.f k (gG c2 v4).f0 c1).bind fun ah=>(if (decide ((v12.length:Int)>0))=true then (if 0≤(wq ((v12.length:Int) - 1)) then (if (wq ((v12.length:Int) - 1))<(v12.length:Int) then (if (decide ((gG v12 (wq ((v12.length:Int) - 1))).f0=ah.1))=true then (R (wq (v4+1)) v5 v6 v7 v8 v9 v10 v11 v12) else (fu.l1 (fun ac aN ai aj ak al am ao ap aq au aw aa ax ay x0 x1=>(if (!(decide (aN=0)))=true then (x0 ai aj ak al am ao ap aq au aw aN aa ax ay) else (if (decide ((aa.length:Int)>0))=true then (if (decide ((ac.length:Int)>0))=true then (if 0<(ac.length:Int) then (if 0≤(wq ((aa.length:Int) - 1)) then (if (wq ((aa.length:Int) - 1))<(aa.length:Int) then (if (decide ((gS ac 0).f0=(wq ((gS aa (wq ((aa.length:Int) - 1))).f1+1))))=true then (if 0<(ac.length:Int) then (if 0≤(wq ((aa.length:Int) - 1)) then (if (wq ((aa.length:Int) - 1))<(aa.length:Int) then (if 1≤(ac.length:Int) then (if (aa.set (Int.toNat (wq ((aa.length:Int) - 1))) (⟨(gS aa (wq ((aa.length:Int) - 1))).f0,(gS ac 0).f1⟩:P.S41)).length+(ac.drop 1).length≤8796093022208 then (x1 ai aj ak al am ao ap aq au aw ((aa.set (Int.toNat (wq ((aa.length:Int) - 1))) (⟨(gS aa (wq ((aa.length:Int) - 1))).f0,(gS ac 0).f1⟩:P.S41))++(ac.drop 1)) ax ay) else none) else none) else none) else none) else none) else (if aa.length+ac.length≤8796093022208 then (x1 ai aj ak al am ao ap aq au aw (aa++ac) ax ay) else none)) else none) else none) else none) else (if aa.length+ac.length≤8796093022208 then (x1 ai aj ak al am ao ap aq au aw (aa++ac) ax ay) else none)) else (if aa.length+ac.length≤8796093022208 then (x1 ai aj ak al am ao ap aq au aw (aa++ac) ax ay) else none)))) (fun aO aP aQ aR aS aT aU aL bt bu a7 bv bw bz=>(if (!(decide (a7=0)))=true then (X0 aO aP aQ aR aS aT aU aL) else (if aL.length+1≤4398046511104 then (R (wq (v4+1)) aO aP aQ aR aS aT aU (aL++[(⟨ah.1,[]⟩:P.S43)])) else none))) (fun a8 a9 ba bb bd be bf aV bA bB bg bC bD=>(if aV.length+1≤4398046511104 then (R (wq (v4+1)) a8 a9 ba bb bd be bf (aV++[(⟨ah.1,bg⟩:P.S43)])) else none)) c1 k 0 v5 v6 v7 v8 v9 v10 v11 v12 (gG c2 v4).f0 (gG c2 v4).f1 [] (wq (ah.1*c1)) c1)) else none) else none) else (fu.l1 (fun af aW az aA aB aC aD aE aF aG aH aI ab aJ aK x0 x1=>(if (!(decide (aW=0)))=true then (x0 az aA aB aC aD aE aF aG aH aI aW ab aJ aK) else (if (decide ((ab.length:Int)>0))=true then (if (decide ((af.length:Int)>0))=true then (if 0<(af.length:Int) then (if 0≤(wq ((ab.length:Int) - 1)) then (if (wq ((ab.length:Int) - 1))<(ab.length:Int) then (if (decide ((gS af 0).f0=(wq ((gS ab (wq ((ab.length:Int) - 1))).f1+1))))=true then (if 0<(af.length:Int) then (if 0≤(wq ((ab.length:Int) - 1)) then (if (wq ((ab.length:Int) - 1))<(ab.length:Int) then (if 1≤(af.length:Int) then (if (ab.set (Int.toNat (wq ((ab.length:Int) - 1))) (⟨(gS ab (wq ((ab.length:Int) - 1))).f0,(gS af 0).f1⟩:P.S41)).length+(af.drop 1).length≤8796093022208 then (x1 az aA aB aC aD aE aF aG aH aI ((ab.set (Int.toNat (wq ((ab.length:Int) - 1))) (⟨(gS ab (wq ((ab.length:Int) - 1))).f0,(gS af 0).f1⟩:P.S41))++(af.drop 1)) aJ aK) else none) else none) else none) else none) else none) else (if ab.length+af.length≤8796093022208 then (x1 az aA aB aC aD aE aF aG aH aI (ab++af) aJ aK) else none)) else none) else none) else none) else (if ab.length+af.length≤8796093022208 then (x1 az aA aB aC aD aE aF aG aH aI (ab++af) aJ aK) else none)) else (if ab.length+af.length≤8796093022208 then (x1 az aA aB aC aD aE aF aG aH aI (ab++af) aJ aK) else none)))) (fun aX aY aZ a2 a3 a4 a5 aM bE bF bh bG bH bI=>(if (!(decide (bh=0)))=true then (X0 aX aY aZ a2 a3 a4 a5 aM) else (if aM.length+1≤4398046511104 then (R (wq (v4+1)) aX aY aZ a2 a3 a4 a5 (aM++[(⟨ah.1,[]⟩:P.S43)])) else none))) (fun bi bj bk bm bn bo bq a6 bJ bL br bM bN=>(if a6.length+1≤4398046511104 then (R (wq (v4+1)) bi bj bk bm bn bo bq (a6++[(⟨ah.1,br⟩:P.S43)])) else none)) c1 k 0 v5 v6 v7 v8 v9 v10 v11 v12 (gG c2 v4).f0 (gG c2 v4).f1 [] (wq (ah.1*c1)) c1))) else none) else none) else (X1 v5 v6 v7 v8 v9 v10 v11 v12))
noncomputable def fu.l0:Nat→Int→Int→Int→(List (List P.S41))→(List P.S43)→Int→Int→(List (List P.S41))→(List P.S43)→Option γ
  | 0=>(fun _ _ _ _ _ _ _ _ _=>none)
  | k+1=>(fun v4 v5 v6 v7 v8 v9 v10 v11 v12=>(fu.l0T X0 X1 c1 c2 c3 (fu.l0 k) k v4 v5 v6 v7 v8 v9 v10 v11 v12))
end
section
variable {γ:Type} (X0:Int→Option γ) (c5:List (List P.S41)) (c6:Int)
noncomputable def fu.l2T (R:Int→Int→Option γ) (k:Nat) (v4:Int) (v7:Int):Option γ:=(if (decide (v7<c6))=true then (if 0≤v7 then (if v7<(c5.length:Int) then (R (wq (v4+((gL c5 v7).length:Int))) (wq (v7+1))) else none) else none) else (X0 v4))
noncomputable def fu.l2:Nat→Int→Int→Option γ
  | 0=>(fun _ _=>none)
  | k+1=>(fun v4 v7=>(fu.l2T X0 c5 c6 (fu.l2 k) k v4 v7))
end
section
variable {γ:Type} (Y0:(List P.S41)→Int→Int→Int→(List (List P.S41))→(List P.S43)→Int→Int→(List (List P.S41))→(List P.S43)→Int→Int→(List (List P.S41))→(List P.S41)→Int→Int→(Int→Int→(List (List P.S41))→(List P.S43)→Int→Int→(List (List P.S41))→(List P.S43)→Int→Int→(List (List P.S41))→Int→(List P.S41)→Int→Int→Option γ)→(Int→Int→(List (List P.S41))→(List P.S43)→Int→Int→(List (List P.S41))→(List P.S43)→Int→Int→(List (List P.S41))→(List P.S41)→Int→Int→Option γ)→Option γ) (X0:Int→Int→(List (List P.S41))→(List P.S43)→Int→Int→(List (List P.S41))→(List P.S43)→Int→Int→(List (List P.S41))→Int→(List P.S41)→Int→Int→Option γ) (X1:Int→Int→(List (List P.S41))→(List P.S43)→Int→Int→(List (List P.S41))→(List P.S43)→Int→Int→(List (List P.S41))→(List P.S41)→Int→Int→Option γ) (c1:Int)
noncomputable def fu.l4T (R:Int→Int→Int→(List (List P.S41))→(List P.S43)→Int→Int→(List (List P.S41))→(List P.S43)→Int→Int→(List (List P.S41))→(List P.S41)→Int→Int→Option γ) (k:Nat) (v2:Int) (v3:Int) (v4:Int) (v5:List (List P.S41)) (v6:List P.S43) (v7:Int) (v8:Int) (v9:List (List P.S41)) (v10:List P.S43) (v11:Int) (v12:Int) (v13:List (List P.S41)) (v14:List P.S41) (v15:Int) (v16:Int):Option γ:=(if (decide (v2<c1))=true then ((jD.f k v7 v8 v9 v10 (wq (v15+v2))).bind fun aa=>(Y0 aa.1 aa.2 v3 v4 v5 v6 v7 v8 v9 v10 v11 v12 v13 v14 v15 v16 X0 (fun ab ac af ah ai aj ak al am ao ap aq au aw=>(R (wq (v2+1)) ab ac af ah ai aj ak al am ao ap aq au aw)))) else (X1 v3 v4 v5 v6 v7 v8 v9 v10 v11 v12 v13 v14 v15 v16))
noncomputable def fu.l4:Nat→Int→Int→Int→(List (List P.S41))→(List P.S43)→Int→Int→(List (List P.S41))→(List P.S43)→Int→Int→(List (List P.S41))→(List P.S41)→Int→Int→Option γ
  | 0=>(fun _ _ _ _ _ _ _ _ _ _ _ _ _ _ _=>none)
  | k+1=>(fun v2 v3 v4 v5 v6 v7 v8 v9 v10 v11 v12 v13 v14 v15 v16=>(fu.l4T Y0 X0 X1 c1 (fu.l4 k) k v2 v3 v4 v5 v6 v7 v8 v9 v10 v11 v12 v13 v14 v15 v16))
end
section
variable {γ:Type} (X0:Int→Int→Int→(List (List P.S41))→(List P.S43)→Int→Int→(List (List P.S41))→(List P.S43)→Int→Int→(List (List P.S41))→Option γ) (X1:Int→Int→(List (List P.S41))→(List P.S43)→Int→Int→(List (List P.S41))→(List P.S43)→Int→Int→(List (List P.S41))→Option γ) (c1:Int) (c2:Int)
noncomputable def fu.l3T (R:Int→Int→Int→(List (List P.S41))→(List P.S43)→Int→Int→(List (List P.S41))→(List P.S43)→Int→Int→(List (List P.S41))→Option γ) (k:Nat) (v3:Int) (v4:Int) (v5:Int) (v6:List (List P.S41)) (v7:List P.S43) (v8:Int) (v9:Int) (v10:List (List P.S41)) (v11:List P.S43) (v12:Int) (v13:Int) (v14:List (List P.S41)):Option γ:=(if (decide (v3<c2))=true then (fu.l4 (fun ab ay ac af ah ai aj ak al am ao ap aq aa au aw x0 x1=>(if (!(decide (ay=0)))=true then (x0 ac af ah ai aj ak al am ao ap aq ay aa au aw) else (if (decide ((aa.length:Int)>0))=true then (if (decide ((ab.length:Int)>0))=true then (if 0<(ab.length:Int) then (if 0≤(wq ((aa.length:Int) - 1)) then (if (wq ((aa.length:Int) - 1))<(aa.length:Int) then (if (decide ((gS ab 0).f0=(wq ((gS aa (wq ((aa.length:Int) - 1))).f1+1))))=true then (if 0<(ab.length:Int) then (if 0≤(wq ((aa.length:Int) - 1)) then (if (wq ((aa.length:Int) - 1))<(aa.length:Int) then (if 1≤(ab.length:Int) then (if (aa.set (Int.toNat (wq ((aa.length:Int) - 1))) (⟨(gS aa (wq ((aa.length:Int) - 1))).f0,(gS ab 0).f1⟩:P.S41)).length+(ab.drop 1).length≤8796093022208 then (x1 ac af ah ai aj ak al am ao ap aq ((aa.set (Int.toNat (wq ((aa.length:Int) - 1))) (⟨(gS aa (wq ((aa.length:Int) - 1))).f0,(gS ab 0).f1⟩:P.S41))++(ab.drop 1)) au aw) else none) else none) else none) else none) else none) else (if aa.length+ab.length≤8796093022208 then (x1 ac af ah ai aj ak al am ao ap aq (aa++ab) au aw) else none)) else none) else none) else none) else (if aa.length+ab.length≤8796093022208 then (x1 ac af ah ai aj ak al am ao ap aq (aa++ab) au aw) else none)) else (if aa.length+ab.length≤8796093022208 then (x1 ac af ah ai aj ak al am ao ap aq (aa++ab) au aw) else none)))) (fun az aA aB aC aD aE aF aG aH aI ax aJ aW aX aY=>(if (!(decide (aJ=0)))=true then (X0 aJ az aA aB aC aD aE aF aG aH aI ax) else (if ax.length+1≤5864062014805 then (R (wq (v3+1)) az aA aB aC aD aE aF aG aH aI (ax++[[]])) else none))) (fun aL aM aN aO aP aQ aR aS aT aU aK aV aZ a2=>(if aK.length+1≤5864062014805 then (R (wq (v3+1)) aL aM aN aO aP aQ aR aS aT aU (aK++[aV])) else none)) c1 k 0 v4 v5 v6 v7 v8 v9 v10 v11 v12 v13 v14 [] (wq (v3*c1)) c1) else (X1 v4 v5 v6 v7 v8 v9 v10 v11 v12 v13 v14))
noncomputable def fu.l3:Nat→Int→Int→Int→(List (List P.S41))→(List P.S43)→Int→Int→(List (List P.S41))→(List P.S43)→Int→Int→(List (List P.S41))→Option γ
  | 0=>(fun _ _ _ _ _ _ _ _ _ _ _ _=>none)
  | k+1=>(fun v3 v4 v5 v6 v7 v8 v9 v10 v11 v12 v13 v14=>(fu.l3T X0 X1 c1 c2 (fu.l3 k) k v3 v4 v5 v6 v7 v8 v9 v10 v11 v12 v13 v14))
end
noncomputable def fu.f (k:Nat) (af:Int) (aa:Int) (ab:List (List P.S41)) (ac:List P.S43) (a1:Int):Option (P.S25 × Int):=(if (decide (a1<1))=true then (some ((⟨0,0,[],[]⟩:P.S25),2)) else (if (decide (a1>6000))=true then (some ((⟨0,0,[],[]⟩:P.S25),2)) else ((iY.f k af aa ab ac a1).bind fun t1=>(if (decide (t1.1=0))=true then (fu.l0 (fun aP aQ aR aS aT aU aV aW=>(some ((⟨0,0,[],[]⟩:P.S25),20))) (fun aX aY aZ a2 ap aq au aw=>((jl.f k ap aq au aw).bind fun ak=>(some (ak.1,ak.2)))) a1 ac (ac.length:Int) k 0 af aa ab ac 0 0 [] []) else (fu.l2 (fun ax=>(if aa=0 then none else (if (decide ((wq (ax*(wq (Int.tdiv t1.2 aa))))>60000))=true then (some ((⟨0,0,[],[]⟩:P.S25),3)) else (if aa=0 then none else ((jv.f k af (wq (Int.tdiv t1.2 aa))).bind fun ah=>(if (!(decide (ah.2=0)))=true then (some ((⟨0,0,[],[]⟩:P.S25),20)) else (if (decide (ah.1>1099511627776))=true then (some ((⟨0,0,[],[]⟩:P.S25),20)) else (fu.l3 (fun al ay az aA ai a3 a4 a5 a6 a7 a8 a9=>(if (!(decide (al=0)))=true then (some ((⟨0,0,[],[]⟩:P.S25),al)) else (fu.l0 (fun ba bb bd be bf bg bh bi=>(some ((⟨0,0,[],[]⟩:P.S25),20))) (fun bj bk bm bn aB aC aD aE=>((jl.f k aB aC aD aE).bind fun am=>(some (am.1,am.2)))) a1 ai (ai.length:Int) k 0 ay az aA ai 0 0 [] []))) (fun aF aG aH aj bo bq br bt aI aJ aK=>(fu.l0 (fun bu bv bw bz bA bB bC bD=>(some ((⟨0,0,[],[]⟩:P.S25),20))) (fun bE bF bG bH aL aM aN aO=>((jl.f k aL aM aN aO).bind fun ao=>(some (ao.1,ao.2)))) a1 aj (aj.length:Int) k 0 aF aG aH aj aI aJ aK [])) a1 t1.1 k 0 af aa ab ac af aa ab ac ah.1 t1.1 [])))))))) ab (ab.length:Int) k 0 0)))))
noncomputable def jH.f (k:Nat) (aa:Int) (ab:Int) (ac:List (List P.S41)) (af:List P.S43) (a1:Int):Option (P.S41 × Bool):=((iL.f k aa ab ac af a1).bind fun t1=>((iA.f k t1).bind fun t2=>(some (t2.1,t2.2))))
noncomputable def jY.f (k:Nat) (aa:Int) (ab:Int) (ac:List (List P.S41)) (af:List P.S43):Option (Int × Int × Bool):=((fG.f k aa ab ac af (-1099511627776)).bind fun t1=>((fH.f k aa ab ac af 1099511627776).bind fun t2=>(some (t1.1,t2.1,t1.2))))
noncomputable def jZ.f (k:Nat) (aa:Int) (ab:Int) (ac:List (List P.S41)) (af:List P.S43) (a1:Int):Option (Int × Bool):=((jY.f k aa ab ac af).bind fun t1=>(if (!t1.2.2)=true then (some (0,false)) else (if (decide (a1≥t1.2.1))=true then (some (0,false)) else (if (decide (a1<t1.1))=true then (some (t1.1,true)) else ((iB.f k aa ab ac af a1).bind fun t2=>(some (t2.1,t2.2)))))))
noncomputable def iT.f (k:Nat)  : Option (P.S25):=(some (⟨7,1,[[(⟨0,4⟩:P.S41)]],[]⟩:P.S25))
section
variable {γ:Type} (X0:Bool→Int→Int→(List (List P.S41))→(List P.S43)→Int→Int→(List (List P.S41))→(List P.S43)→Int→Int→(List (List P.S41))→(List P.S43)→Int→Int→(List (List P.S41))→(List P.S43)→Int→Int→Option γ) (X1:Int→Int→(List (List P.S41))→(List P.S43)→Int→Int→(List (List P.S41))→(List P.S43)→Int→Int→(List (List P.S41))→(List P.S43)→Int→Int→(List (List P.S41))→(List P.S43)→Int→Int→Option γ) (X2:Int→Int→(List (List P.S41))→(List P.S43)→Int→Int→(List (List P.S41))→(List P.S43)→Int→Int→(List (List P.S41))→(List P.S43)→Int→Int→(List (List P.S41))→(List P.S43)→Int→Int→Option γ) (X3:Int→Int→(List (List P.S41))→(List P.S43)→Int→Int→(List (List P.S41))→(List P.S43)→Int→Int→(List (List P.S41))→(List P.S43)→Int→Int→(List (List P.S41))→(List P.S43)→Int→Int→Option γ) (X4:Int→Int→(List (List P.S41))→(List P.S43)→Int→Int→(List (List P.S41))→(List P.S43)→Int→Int→(List (List P.S41))→(List P.S43)→Int→Int→(List (List P.S41))→(List P.S43)→Int→Int→Option γ) (X5:Int→Int→(List (List P.S41))→(List P.S43)→Int→Int→(List (List P.S41))→(List P.S43)→Int→Int→(List (List P.S41))→(List P.S43)→Int→Int→(List (List P.S41))→(List P.S43)→Int→Int→Option γ) (X6:Int→Int→(List (List P.S41))→(List P.S43)→Int→Int→(List (List P.S41))→(List P.S43)→Int→Int→(List (List P.S41))→(List P.S43)→Int→Int→(List (List P.S41))→(List P.S43)→Int→Int→Option γ)
noncomputable def fZ.l0 (k:Nat) (v1:Int) (v2:Int) (v3:List (List P.S41)) (v4:List P.S43) (v5:Int) (v6:Int) (v7:List (List P.S41)) (v8:List P.S43) (v9:Int) (v10:Int) (v11:List (List P.S41)) (v12:List P.S43) (v13:Int) (v14:Int) (v15:List (List P.S41)) (v16:List P.S43) (v17:Int) (v18:Int):Option γ:=((iV.f k v1 v2 v3 v4 v9 v10 v11 v12 9).bind fun t6=>(if (decide (t6.1=1))=true then (if (t6.2==true)=true then ((fF.f k v5 v6 v7 v8 v1 v2 v3 v4 1).bind fun t7=>(if (decide (t7.1=7))=true then (if (decide (t7.2.1=11))=true then (if (t7.2.2==true)=true then ((iV.f k v1 v2 v3 v4 v5 v6 v7 v8 5).bind fun t8=>(if (decide (t8.1=0))=true then (if (t8.2==false)=true then ((iV.f k v9 v10 v11 v12 v13 v14 v15 v16 4).bind fun t9=>(if (decide (t9.1=0))=true then (if (t9.2==false)=true then ((fE.f k v9 v10 v11 v12 v13 v14 v15 v16 4).bind fun t10=>(if (decide (t10.1=0))=true then (if (decide (t10.2.1=1))=true then (if (t10.2.2==true)=true then ((jZ.f k v9 v10 v11 v12 (-1)).bind fun t11=>(if (decide (t11.1=0))=true then (X0 (t11.2==true) v1 v2 v3 v4 v5 v6 v7 v8 v9 v10 v11 v12 v13 v14 v15 v16 v17 v18) else (X1 v1 v2 v3 v4 v5 v6 v7 v8 v9 v10 v11 v12 v13 v14 v15 v16 v17 v18))) else (X2 v1 v2 v3 v4 v5 v6 v7 v8 v9 v10 v11 v12 v13 v14 v15 v16 v17 v18)) else (X2 v1 v2 v3 v4 v5 v6 v7 v8 v9 v10 v11 v12 v13 v14 v15 v16 v17 v18)) else (X2 v1 v2 v3 v4 v5 v6 v7 v8 v9 v10 v11 v12 v13 v14 v15 v16 v17 v18))) else (X3 v1 v2 v3 v4 v5 v6 v7 v8 v9 v10 v11 v12 v13 v14 v15 v16 v17 v18)) else (X3 v1 v2 v3 v4 v5 v6 v7 v8 v9 v10 v11 v12 v13 v14 v15 v16 v17 v18))) else (X4 v1 v2 v3 v4 v5 v6 v7 v8 v9 v10 v11 v12 v13 v14 v15 v16 v17 v18)) else (X4 v1 v2 v3 v4 v5 v6 v7 v8 v9 v10 v11 v12 v13 v14 v15 v16 v17 v18))) else (X5 v1 v2 v3 v4 v5 v6 v7 v8 v9 v10 v11 v12 v13 v14 v15 v16 v17 v18)) else (X5 v1 v2 v3 v4 v5 v6 v7 v8 v9 v10 v11 v12 v13 v14 v15 v16 v17 v18)) else (X5 v1 v2 v3 v4 v5 v6 v7 v8 v9 v10 v11 v12 v13 v14 v15 v16 v17 v18))) else (X6 v1 v2 v3 v4 v5 v6 v7 v8 v9 v10 v11 v12 v13 v14 v15 v16 v17 v18)) else (X6 v1 v2 v3 v4 v5 v6 v7 v8 v9 v10 v11 v12 v13 v14 v15 v16 v17 v18)))
end
noncomputable def fZ.f (k:Nat)  : Option (Bool):=((iF.f k).bind fun t1=>((iT.f k).bind fun t2=>((fu.f k t1.f0 t1.f1 t1.f2 t1.f3 7).bind fun t3=>((fu.f k t1.f0 t1.f1 t1.f2 t1.f3 30).bind fun t4=>((jH.f k t3.1.f0 t3.1.f1 t3.1.f2 t3.1.f3 (-1)).bind fun t5=>(if (!(decide (t3.2=0)))=true then (some false) else (if (!(decide (t4.2=0)))=true then (some false) else (if (!t5.2)=true then (some false) else (if (!((t5.1.f0==(-7))&&(t5.1.f1==(-1))))=true then (some false) else (fZ.l0 (fun aa y13 aP aQ aR aS aT aU y20 y21 y22 y23 y24 y25 aV y27 y28 y29 aW=>(some aa)) (fun y31 y32 aX y34 aY aZ a2 y38 y39 a3 a4 a5 a6 a7 a8 a9 ba bb=>(some false)) (fun bd be bf bg bh bi bj bk bm bn bo bq br bt bu bv bw bz=>(some false)) (fun bA bB bC bD bE bF bG bH bI bJ bL bM bN bO bP bQ bR bS=>(some false)) (fun bT bU bV bW bX y90 y91 bY y93 bZ y95 y96 b2 y98 y99 ab y101 y102=>(some false)) (fun ac y104 af ah ai aj ak al am y112 y113 y114 y115 ao ap aq au aw=>(some false)) (fun ax ay az aA aB aC aD aE aF aG aH aI aJ aK aL aM aN aO=>(some false)) k t1.f0 t1.f1 t1.f2 t1.f3 t2.f0 t2.f1 t2.f2 t2.f3 t3.1.f0 t3.1.f1 t3.1.f2 t3.1.f3 t4.1.f0 t4.1.f1 t4.1.f2 t4.1.f3 t5.1.f0 t5.1.f1))))))))))
section
variable {γ:Type} (X0:Option γ) (X1:Option γ) (c1:List P.S41) (c2:Int) (c3:Bool) (c4:List Int) (c10:Int) (c11:Int) (c12:List (List P.S41)) (c13:List P.S43)
noncomputable def fU.l1T (R:Int→Option γ) (k:Nat) (v5:Int):Option γ:=(if (decide (v5<2))=true then (if 0≤v5 then (if v5<(c4.length:Int) then ((iM.f k c10 c11 c12 c13 (gI c4 v5)).bind fun t12=>(if c3=true then (if (decide (c2=0))=true then (if (decide ((c1.length:Int)>0))=true then (if (decide (t12.2=0))=true then ((iE.f k c1 t12.1).bind fun aa=>(if aa=true then X0 else (R (wq (v5+1))))) else (R (wq (v5+1)))) else (R (wq (v5+1)))) else (R (wq (v5+1)))) else (R (wq (v5+1))))) else none) else none) else X1)
noncomputable def fU.l1:Nat→Int→Option γ
  | 0=>(fun _=>none)
  | k+1=>(fun v5=>(fU.l1T X0 X1 c1 c2 c3 c4 c10 c11 c12 c13 (fU.l1 k) k v5))
end
section
variable {γ:Type} (X0:Int→Int→(List (List P.S41))→(List P.S43)→Int→Int→(List (List P.S41))→(List P.S43)→Option γ) (X1:Bool→Int→Int→(List (List P.S41))→(List P.S43)→Int→Int→(List (List P.S41))→(List P.S43)→Option γ)
noncomputable def fU.l0 (k:Nat) (v1:Int) (v2:Int) (v3:Int) (v4:List (List P.S41)) (v5:List P.S43) (v6:Int) (v7:Int) (v8:List (List P.S41)) (v9:List P.S43):Option γ:=((iM.f k v2 v3 v4 v5 v1).bind fun t5=>((iV.f k v2 v3 v4 v5 v6 v7 v8 v9 v1).bind fun t6=>((fE.f k v2 v3 v4 v5 v6 v7 v8 v9 v1).bind fun t7=>(if (!t6.2)=true then (if (!(decide (t6.1=0)))=true then (X0 v2 v3 v4 v5 v6 v7 v8 v9) else (fU.l1 (X0 v2 v3 v4 v5 v6 v7 v8 v9) ((fZ.f k).bind fun ab=>(X1 ab v2 v3 v4 v5 v6 v7 v8 v9)) t5.1 t5.2 t7.2.2 [t7.1,t7.2.1] v6 v7 v8 v9 k 0)) else ((iM.f k v6 v7 v8 v9 t6.1).bind fun aa=>((fF.f k v6 v7 v8 v9 v2 v3 v4 v5 t6.1).bind fun t16=>(if (decide (t5.2=0))=true then (if (decide (aa.2=0))=true then (if (decide ((t5.1.length:Int)>0))=true then ((iE.f k t5.1 aa.1).bind fun t17=>(if t17=true then (if t7.2.2=true then (if (decide (t7.1=t6.1))=true then (if (decide (t7.2.1=t6.1))=true then (if t16.2.2=true then (if (decide (t16.1≤v1))=true then (if (decide (v1≤t16.2.1))=true then ((fZ.f k).bind fun ac=>(X1 ac v2 v3 v4 v5 v6 v7 v8 v9)) else (X0 v2 v3 v4 v5 v6 v7 v8 v9)) else (X0 v2 v3 v4 v5 v6 v7 v8 v9)) else (X0 v2 v3 v4 v5 v6 v7 v8 v9)) else (X0 v2 v3 v4 v5 v6 v7 v8 v9)) else (X0 v2 v3 v4 v5 v6 v7 v8 v9)) else (X0 v2 v3 v4 v5 v6 v7 v8 v9)) else (X0 v2 v3 v4 v5 v6 v7 v8 v9))) else (X0 v2 v3 v4 v5 v6 v7 v8 v9)) else (X0 v2 v3 v4 v5 v6 v7 v8 v9)) else (X0 v2 v3 v4 v5 v6 v7 v8 v9))))))))
end
section
variable {γ:Type} (X0:Bool→(List P.S43)→Int→Int→(List (List P.S41))→(List P.S43)→Int→Int→Int→Int→(List (List P.S41))→(List P.S43)→Option γ) (X1:(List P.S43)→Int→Int→(List (List P.S41))→(List P.S43)→Int→Int→Int→Int→(List (List P.S41))→(List P.S43)→Option γ)
noncomputable def fI.l1 (k:Nat) (v1:Int) (v2:List P.S43) (v3:Int) (v4:Int) (v5:List (List P.S41)) (v6:List P.S43) (v7:Int) (v8:Int) (v9:Int) (v10:Int) (v11:List (List P.S41)) (v12:List P.S43):Option γ:=((fF.f k 0 0 [] v2 v9 v10 v11 v12 3).bind fun t9=>(if (t9.2.2==(decide (v1=1)))=true then ((fZ.f k).bind fun t10=>(X0 t10 v2 v3 v4 v5 v6 v7 v8 v9 v10 v11 v12)) else (X1 v2 v3 v4 v5 v6 v7 v8 v9 v10 v11 v12)))
end
section
variable {γ:Type} (X0:(List P.S43)→Int→Int→(List (List P.S41))→(List P.S43)→Int→Int→Int→Int→(List (List P.S41))→(List P.S43)→Option γ) (X1:Bool→(List P.S43)→Int→Int→(List (List P.S41))→(List P.S43)→Int→Int→Int→Int→(List (List P.S41))→(List P.S43)→Option γ)
noncomputable def fI.l0 (k:Nat) (v1:Int) (v2:Int) (v3:List P.S43) (v4:Int) (v5:Int) (v6:List (List P.S41)) (v7:List P.S43) (v8:Int) (v9:Int):Option γ:=((fu.f k v4 v5 v6 v7 v2).bind fun t5=>((fE.f k 0 0 [] v3 t5.1.f0 t5.1.f1 t5.1.f2 t5.1.f3 3).bind fun t6=>((jX.f k t5.1.f0 t5.1.f1 t5.1.f2 t5.1.f3 (wq (0 - v1))).bind fun t7=>((jX.f k t5.1.f0 t5.1.f1 t5.1.f2 t5.1.f3 v1).bind fun t8=>(if (!(decide (t5.2=0)))=true then (X0 v3 v4 v5 v6 v7 v8 v9 t5.1.f0 t5.1.f1 t5.1.f2 t5.1.f3) else (if t7.2=true then (if (!t6.2.2)=true then (X0 v3 v4 v5 v6 v7 v8 v9 t5.1.f0 t5.1.f1 t5.1.f2 t5.1.f3) else (if (!(decide (t6.1=t7.1)))=true then (X0 v3 v4 v5 v6 v7 v8 v9 t5.1.f0 t5.1.f1 t5.1.f2 t5.1.f3) else (if t8.2=true then (if (!t6.2.2)=true then (X0 v3 v4 v5 v6 v7 v8 v9 t5.1.f0 t5.1.f1 t5.1.f2 t5.1.f3) else (if (!(decide (t6.2.1=t8.1)))=true then (X0 v3 v4 v5 v6 v7 v8 v9 t5.1.f0 t5.1.f1 t5.1.f2 t5.1.f3) else (fI.l1 X1 X0 k v2 v3 v4 v5 v6 v7 v8 v9 t5.1.f0 t5.1.f1 t5.1.f2 t5.1.f3))) else (fI.l1 X1 X0 k v2 v3 v4 v5 v6 v7 v8 v9 t5.1.f0 t5.1.f1 t5.1.f2 t5.1.f3)))) else (if t8.2=true then (if (!t6.2.2)=true then (X0 v3 v4 v5 v6 v7 v8 v9 t5.1.f0 t5.1.f1 t5.1.f2 t5.1.f3) else (if (!(decide (t6.2.1=t8.1)))=true then (X0 v3 v4 v5 v6 v7 v8 v9 t5.1.f0 t5.1.f1 t5.1.f2 t5.1.f3) else (fI.l1 X1 X0 k v2 v3 v4 v5 v6 v7 v8 v9 t5.1.f0 t5.1.f1 t5.1.f2 t5.1.f3))) else (fI.l1 X1 X0 k v2 v3 v4 v5 v6 v7 v8 v9 t5.1.f0 t5.1.f1 t5.1.f2 t5.1.f3))))))))
end
noncomputable def fI.f (k:Nat) (a0:Int) (a1:Int):Option (Bool):=((iF.f k).bind fun t1=>((fF.f k 0 0 [] [(⟨3,[(⟨(wq (0 - (wq (1+(wq (Int.tmod a0 1099511627776)))))),(wq (0 - (wq (1+(wq (Int.tmod a0 1099511627776))))))⟩:P.S41),(⟨(wq (1+(wq (Int.tmod a0 1099511627776)))),(wq (1+(wq (Int.tmod a0 1099511627776))))⟩:P.S41)]⟩:P.S43)] t1.f0 t1.f1 t1.f2 t1.f3 3).bind fun t2=>(if (!t2.2.2)=true then (some false) else (if (!(decide (t2.1=(wq (0 - (wq (1+(wq (Int.tmod a0 1099511627776)))))))))=true then (some false) else (if (!(decide (t2.2.1=(wq (1+(wq (Int.tmod a0 1099511627776)))))))=true then (some false) else ((fE.f k 0 0 [] [(⟨3,[(⟨(wq (0 - (wq (1+(wq (Int.tmod a0 1099511627776)))))),(wq (0 - (wq (1+(wq (Int.tmod a0 1099511627776))))))⟩:P.S41),(⟨(wq (1+(wq (Int.tmod a0 1099511627776)))),(wq (1+(wq (Int.tmod a0 1099511627776))))⟩:P.S41)]⟩:P.S43)] t1.f0 t1.f1 t1.f2 t1.f3 3).bind fun t3=>(if (decide (t3.1=(wq (0 - (wq (1+(wq (Int.tmod a0 1099511627776))))))))=true then (if (decide (t3.2.1=(wq (1+(wq (Int.tmod a0 1099511627776))))))=true then (if (!(t3.2.2==true))=true then (some false) else ((iV.f k 0 0 [] [(⟨3,[(⟨(wq (0 - (wq (1+(wq (Int.tmod a0 1099511627776)))))),(wq (0 - (wq (1+(wq (Int.tmod a0 1099511627776))))))⟩:P.S41),(⟨(wq (1+(wq (Int.tmod a0 1099511627776)))),(wq (1+(wq (Int.tmod a0 1099511627776))))⟩:P.S41)]⟩:P.S43)] t1.f0 t1.f1 t1.f2 t1.f3 3).bind fun t4=>(if (decide (t4.1=0))=true then (if (!(t4.2==false))=true then (some false) else (fI.l0 (fun aa y104 ab ac af ah ai aj ak y112 y113=>(some false)) (fun y114 y115 al am ao ap aq au aw ax ay az=>(some y114)) k (wq (1+(wq (Int.tmod a0 1099511627776)))) (wq (1+(wq (Int.tmod a1 250)))) [(⟨3,[(⟨(wq (0 - (wq (1+(wq (Int.tmod a0 1099511627776)))))),(wq (0 - (wq (1+(wq (Int.tmod a0 1099511627776))))))⟩:P.S41),(⟨(wq (1+(wq (Int.tmod a0 1099511627776)))),(wq (1+(wq (Int.tmod a0 1099511627776))))⟩:P.S41)]⟩:P.S43)] t1.f0 t1.f1 t1.f2 t1.f3 (wq (0 - (wq (1+(wq (Int.tmod a0 1099511627776)))))) (wq (1+(wq (Int.tmod a0 1099511627776)))))) else (some false)))) else (some false)) else (some false))))))))
section
variable {γ:Type} (X0:Option γ) (X1:Option γ) (c1:List (List P.S41)) (c2:Int)
noncomputable def gJ.l0T (R:Int→Option γ) (k:Nat) (v3:Int):Option γ:=(if (decide (v3<c2))=true then (if 0≤v3 then (if v3<(c1.length:Int) then ((iA.f k (gL c1 v3)).bind fun t4=>(if t4.2=true then (if (decide (t4.1.f0<(-200)))=true then X0 else (if (decide (t4.1.f1>200))=true then X0 else (R (wq (v3+1))))) else (R (wq (v3+1))))) else none) else none) else X1)
noncomputable def gJ.l0:Nat→Int→Option γ
  | 0=>(fun _=>none)
  | k+1=>(fun v3=>(gJ.l0T X0 X1 c1 c2 (gJ.l0 k) k v3))
end
section
variable {γ:Type} (X0:Option γ) (X1:Option γ) (c1:List P.S43) (c2:Int)
noncomputable def gJ.l1T (R:Int→Option γ) (k:Nat) (v3:Int):Option γ:=(if (decide (v3<c2))=true then (if 0≤v3 then (if v3<(c1.length:Int) then ((iA.f k (gG c1 v3).f1).bind fun t7=>(if (decide ((gG c1 v3).f0<(-100)))=true then X0 else (if (decide ((gG c1 v3).f0>100))=true then X0 else (if t7.2=true then (if (decide (t7.1.f0<(-3000)))=true then X0 else (if (decide (t7.1.f1>3000))=true then X0 else (R (wq (v3+1))))) else (R (wq (v3+1))))))) else none) else none) else X1)
noncomputable def gJ.l1:Nat→Int→Option γ
  | 0=>(fun _=>none)
  | k+1=>(fun v3=>(gJ.l1T X0 X1 c1 c2 (gJ.l1 k) k v3))
end
noncomputable def kP.f (k:Nat) (a0:List P.S41):Option (List P.S41):=(if 0≤(a0.length:Int) then (if (a0.length:Int)≤8796093022208 then (some ((a0.take (List.replicate (Int.toNat (a0.length:Int)) (⟨0,0⟩:P.S41)).length)++((List.replicate (Int.toNat (a0.length:Int)) (⟨0,0⟩:P.S41)).drop a0.length))) else none) else none)
section
variable {γ:Type} (X0:(List (List P.S41))→Option γ) (c1:List (List P.S41)) (c2:Int)
noncomputable def gq.l0T (R:Int→(List (List P.S41))→Option γ) (k:Nat) (v3:Int) (v10:List (List P.S41)):Option γ:=(if (decide (v3<c2))=true then (if 0≤v3 then (if v3<(c1.length:Int) then ((kP.f k (gL c1 v3)).bind fun t3=>(if v10.length+1≤5864062014805 then (R (wq (v3+1)) (v10++[t3])) else none)) else none) else none) else (X0 v10))
noncomputable def gq.l0:Nat→Int→(List (List P.S41))→Option γ
  | 0=>(fun _ _=>none)
  | k+1=>(fun v3 v10=>(gq.l0T X0 c1 c2 (gq.l0 k) k v3 v10))
end
section
variable {γ:Type} (X0:(List P.S43)→Option γ) (c1:List P.S43) (c2:Int)
noncomputable def gq.l1T (R:Int→(List P.S43)→Option γ) (k:Nat) (v3:Int) (v11:List P.S43):Option γ:=(if (decide (v3<c2))=true then (if 0≤v3 then (if v3<(c1.length:Int) then ((kP.f k (gG c1 v3).f1).bind fun t7=>(if v11.length+1≤4398046511104 then (R (wq (v3+1)) (v11++[(⟨(gG c1 v3).f0,t7⟩:P.S43)])) else none)) else none) else none) else (X0 v11))
noncomputable def gq.l1:Nat→Int→(List P.S43)→Option γ
  | 0=>(fun _ _=>none)
  | k+1=>(fun v3 v11=>(gq.l1T X0 c1 c2 (gq.l1 k) k v3 v11))
end
section
variable {γ:Type} (X0:(List P.S41)→Option γ) (X1:Option γ) (c1:Int) (c6:List P.S43)
end
section
variable {γ:Type} (X0:(List P.S41)→Option γ) (X1:(List P.S41)→Option γ) (c1:List P.S41) (c2:Int)
end
section
variable {γ:Type} (X0:(List Int)→Bool→Option γ) (c1:List Int) (c2:Int)
end
section
variable {γ:Type} (X0:(List Int)→Option γ) (c1:List P.S41)
end
section
variable {γ:Type} (X0:(List Int)→Option γ) (c1:List P.S41)
end
section
variable {γ:Type} (X0:Option γ) (X1:Option γ) (c1:List P.S41) (c2:Int)
end
section
variable {γ:Type} (X0:(List P.S41)→Option γ) (c1:Int) (c2:List P.S41) (c3:List P.S41) (c4:List Int)
end
section
variable {γ:Type} (X0:(List Int)→Bool→Option γ) (c1:List Int) (c2:Int)
end
section
variable {γ:Type} (X0:(List Int)→Option γ) (c2:Int) (c3:Int) (c5:Int) (c6:Int) (c7:List (List P.S41)) (c8:List P.S43) (c9:Int) (c10:Int)
end
section
variable {γ:Type} (X0:(List Int)→Option γ) (c3:Int) (c4:Int) (c5:List (List P.S41)) (c6:List P.S43) (c7:Int) (c8:Int)
end
section
variable {γ:Type} (X0:(List Int)→Option γ) (c3:Int) (c4:Int) (c5:List (List P.S41)) (c6:List P.S43) (c7:Int) (c8:Int)
end
section
variable {γ:Type} (X0:Int→Option γ) (X1:Option γ) (c1:List P.S41) (c2:List Int) (c8:Int) (c9:Int) (c10:List (List P.S41)) (c11:List P.S43)
end
section
variable {γ:Type} (X0:Int→Int→Bool→Option γ) (c1:Int) (c2:List P.S41) (c3:List Int) (c12:Int) (c13:Int) (c14:List (List P.S41)) (c15:List P.S43)
end
section
variable {γ:Type} (X0:Bool→Int→Option γ) (c1:Int) (c2:Int) (c9:List P.S43)
end
section
variable {γ:Type} (X0:Bool→Int→Option γ) (c1:Int) (c2:Int) (c6:Int) (c7:Int) (c8:List (List P.S41)) (c9:List P.S43)
end
section
variable {γ:Type} (X0:Option γ) (X1:Option γ) (c1:List P.S41) (c2:List P.S41) (c3:Int)
end
section
variable {γ:Type} (X0:Option γ) (X1:Option γ) (c1:List (List P.S41)) (c2:Int) (c10:List (List P.S41))
end
section
variable {γ:Type} (X0:Option γ) (X1:Option γ) (c1:List P.S43) (c2:Int) (c11:List P.S43)
end
section
variable {γ:Type} (X0:Int→Int→(List (List P.S41))→(List P.S43)→Int→Int→(List (List P.S41))→(List P.S43)→Option γ) (X1:Int→Int→(List (List P.S41))→(List P.S43)→Int→Int→(List (List P.S41))→(List P.S43)→Option γ)
end
section
variable {γ:Type} (X0:Int→Int→(List (List P.S41))→(List P.S43)→Int→Int→(List (List P.S41))→(List P.S43)→Int→Int→(List (List P.S41))→(List P.S43)→Int→Int→(List (List P.S41))→(List P.S43)→Int→Bool→Int→Int→Bool→Int→Int→Bool→Int→Int→Int→Int→Int→Bool→Option γ) (X1:Bool→Int→Int→(List (List P.S41))→(List P.S43)→Int→Int→(List (List P.S41))→(List P.S43)→Int→Int→(List (List P.S41))→(List P.S43)→Int→Int→(List (List P.S41))→(List P.S43)→Int→Bool→Int→Int→Bool→Int→Int→Bool→Int→Int→Int→Int→Int→Bool→Int→Bool→Option γ) (X2:Int→Int→(List (List P.S41))→(List P.S43)→Int→Int→(List (List P.S41))→(List P.S43)→Int→Int→(List (List P.S41))→(List P.S43)→Int→Int→(List (List P.S41))→(List P.S43)→Int→Bool→Int→Int→Bool→Int→Int→Bool→Int→Int→Int→Int→Int→Bool→Int→Bool→Option γ)
end
section
variable {γ:Type} (X0:Int→Int→(List (List P.S41))→(List P.S43)→Int→Int→(List (List P.S41))→(List P.S43)→Int→Int→(List (List P.S41))→(List P.S43)→Int→Int→(List (List P.S41))→(List P.S43)→Int→Bool→Option γ) (X1:Int→Int→(List (List P.S41))→(List P.S43)→Int→Int→(List (List P.S41))→(List P.S43)→Int→Int→(List (List P.S41))→(List P.S43)→Int→Int→(List (List P.S41))→(List P.S43)→Int→Bool→Int→Int→Bool→Option γ) (X2:Int→Int→(List (List P.S41))→(List P.S43)→Int→Int→(List (List P.S41))→(List P.S43)→Int→Int→(List (List P.S41))→(List P.S43)→Int→Int→(List (List P.S41))→(List P.S43)→Int→Bool→Int→Int→Bool→Int→Int→Bool→Option γ) (X3:Int→Int→(List (List P.S41))→(List P.S43)→Int→Int→(List (List P.S41))→(List P.S43)→Int→Int→(List (List P.S41))→(List P.S43)→Int→Int→(List (List P.S41))→(List P.S43)→Int→Bool→Int→Int→Bool→Int→Int→Bool→Int→Int→Int→Int→Option γ) (X4:Int→Int→(List (List P.S41))→(List P.S43)→Int→Int→(List (List P.S41))→(List P.S43)→Int→Int→(List (List P.S41))→(List P.S43)→Int→Int→(List (List P.S41))→(List P.S43)→Int→Bool→Int→Int→Bool→Int→Int→Bool→Int→Int→Int→Int→Int→Bool→Option γ) (X5:Bool→Int→Int→(List (List P.S41))→(List P.S43)→Int→Int→(List (List P.S41))→(List P.S43)→Int→Int→(List (List P.S41))→(List P.S43)→Int→Int→(List (List P.S41))→(List P.S43)→Int→Bool→Int→Int→Bool→Int→Int→Bool→Int→Int→Int→Int→Int→Bool→Int→Bool→Option γ) (X6:Int→Int→(List (List P.S41))→(List P.S43)→Int→Int→(List (List P.S41))→(List P.S43)→Int→Int→(List (List P.S41))→(List P.S43)→Int→Int→(List (List P.S41))→(List P.S43)→Int→Bool→Int→Int→Bool→Int→Int→Bool→Int→Int→Int→Int→Int→Bool→Int→Bool→Option γ)
end
section
variable {γ:Type} (X0:Bool→Int→Int→(List (List P.S41))→(List P.S43)→Int→Int→Option γ) (X1:Int→Int→(List (List P.S41))→(List P.S43)→Int→Int→Option γ)
end
section
variable {γ:Type} (X0:Int→Int→(List (List P.S41))→(List P.S43)→Int→Int→Option γ) (X1:Bool→Int→Int→(List (List P.S41))→(List P.S43)→Int→Int→Option γ)
end
section
variable {γ:Type} (X0:Bool→Int→Int→(List (List P.S41))→(List P.S43)→Option γ) (X1:Int→Int→(List (List P.S41))→(List P.S43)→Option γ)
end
section
variable {γ:Type} (X0:Int→Int→(List (List P.S41))→(List P.S43)→Option γ) (X1:Bool→Int→Int→(List (List P.S41))→(List P.S43)→Option γ)
end
section
variable {γ:Type} (X0:Int→Int→(List (List P.S41))→(List P.S43)→Int→Int→Option γ) (X1:Bool→Int→Int→(List (List P.S41))→(List P.S43)→Int→Int→Option γ) (X2:Int→Int→(List (List P.S41))→(List P.S43)→Option γ) (X3:Bool→Int→Int→(List (List P.S41))→(List P.S43)→Option γ)
end
section
variable {γ:Type} (Y0:Int→(List P.S41)→Int→Int→(List (List P.S41))→(List P.S43)→(List P.S41)→Int→Int→(List Int)→Int→Int→Int→(List (List P.S41))→(List P.S43)→Int→Int→(Int→Int→(List (List P.S41))→(List P.S43)→(List P.S41)→Int→Int→(List Int)→Int→Int→Int→(List (List P.S41))→(List P.S43)→Int→Int→Option γ)→(Int→Int→(List (List P.S41))→(List P.S43)→(List P.S41)→Int→Int→(List Int)→Int→Int→Int→(List (List P.S41))→(List P.S43)→Int→Int→Option γ)→Option γ) (X0:Int→Int→(List (List P.S41))→(List P.S43)→(List P.S41)→Int→Int→(List Int)→Int→Int→Int→(List (List P.S41))→(List P.S43)→Int→Int→Option γ) (X1:Int→Int→(List (List P.S41))→(List P.S43)→(List P.S41)→Int→Int→(List Int)→Int→Int→Int→(List (List P.S41))→(List P.S43)→Int→Int→Option γ) (X2:Int→Int→(List (List P.S41))→(List P.S43)→(List P.S41)→Int→Int→(List Int)→Int→Int→Int→(List (List P.S41))→(List P.S43)→Int→Int→Option γ)
end
section
variable {γ:Type} (X0:(List P.S41)→Option γ) (c2:List P.S43) (c3:Int) (c5:Int) (c6:Int) (c7:List (List P.S41)) (c8:List P.S43)
end
end Go.Proofs.YtongeknogcboiaaGreat.R
namespace Go.Proofs.YtongeknogcboiaaGreat.R
open M Go.RowKit Go.Proofs.YtongeknogcboiaaGreatW.fK Go.Proofs.YtongeknogcboiaaGreatW.gN Go.Proofs.YtongeknogcboiaaGreatW.iC
set_option linter.unusedVariables false
variable [Inhabited WT]
end Go.Proofs.YtongeknogcboiaaGreat.R
