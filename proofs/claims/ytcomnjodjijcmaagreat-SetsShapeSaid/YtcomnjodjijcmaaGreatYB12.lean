/- Lemmas for laws of chapter 7: what the functions that they reach compute. No condition of its own. -/
import Derived.Test.YtcomnjodjijcmaaGreatYB9
import Derived.Test.YtcomnjodjijcmaaGreatYB10
import Derived.Test.YtcomnjodjijcmaaGreatYB11
namespace Go.Proofs.YtcomnjodjijcmaaGreat.R
open M Go.RowKit Go.Proofs.YtcomnjodjijcmaaGreatW.dA Go.Proofs.YtcomnjodjijcmaaGreatW.dW Go.Proofs.YtcomnjodjijcmaaGreatW.eD
set_option linter.unusedVariables false
variable [Inhabited WT]
section
variable {γ:Type} (X0:Bool→Int→Int→(List (List P.S42))→(List P.S44)→Int→Int→(List (List P.S42))→(List P.S44)→Int→Int→(List (List P.S42))→(List P.S44)→Int→Int→(List (List P.S42))→(List P.S44)→(List P.S44)→(List P.S44)→Int→Int→(List (List P.S42))→(List P.S44)→Int→Int→(List (List P.S42))→(List P.S44)→Option γ) (X1:Int→Int→(List (List P.S42))→(List P.S44)→Int→Int→(List (List P.S42))→(List P.S44)→Int→Int→(List (List P.S42))→(List P.S44)→Int→Int→(List (List P.S42))→(List P.S44)→(List P.S44)→(List P.S44)→Int→Int→(List (List P.S42))→(List P.S44)→Int→Int→(List (List P.S42))→(List P.S44)→Option γ)
noncomputable def dw.l2 (k:Nat) (v1:Int) (v2:Int) (v3:List (List P.S42)) (v4:List P.S44) (v5:Int) (v6:Int) (v7:List (List P.S42)) (v8:List P.S44) (v9:Int) (v10:Int) (v11:List (List P.S42)) (v12:List P.S44) (v13:Int) (v14:Int) (v15:List (List P.S42)) (v16:List P.S44):Option γ:=((dD.f k 0 0 [] [(⟨1,[(⟨5,5⟩:P.S42)]⟩:P.S44)] 0 0 [] [(⟨2,[(⟨3,3⟩:P.S42)]⟩:P.S44)]).bind fun t12=>((dJ.f k 0 0 [] [(⟨1,[(⟨5,5⟩:P.S42)]⟩:P.S44)] 0 0 [] [(⟨2,[(⟨3,3⟩:P.S42)]⟩:P.S44)]).bind fun aa=>(if (decide (t12.2=51))=true then (if (decide (aa.2=0))=true then ((cZ.f k aa.1.f0 aa.1.f1 aa.1.f2 aa.1.f3 0 0 [] [(⟨1,[(⟨5,5⟩:P.S42)]⟩:P.S44)]).bind fun ab=>(if ab=true then ((eX.f k).bind fun ac=>(X0 ac v1 v2 v3 v4 v5 v6 v7 v8 v9 v10 v11 v12 v13 v14 v15 v16 [(⟨1,[(⟨5,5⟩:P.S42)]⟩:P.S44)] [(⟨2,[(⟨3,3⟩:P.S42)]⟩:P.S44)] t12.1.f0 t12.1.f1 t12.1.f2 t12.1.f3 aa.1.f0 aa.1.f1 aa.1.f2 aa.1.f3)) else (X1 v1 v2 v3 v4 v5 v6 v7 v8 v9 v10 v11 v12 v13 v14 v15 v16 [(⟨1,[(⟨5,5⟩:P.S42)]⟩:P.S44)] [(⟨2,[(⟨3,3⟩:P.S42)]⟩:P.S44)] t12.1.f0 t12.1.f1 t12.1.f2 t12.1.f3 aa.1.f0 aa.1.f1 aa.1.f2 aa.1.f3))) else (X1 v1 v2 v3 v4 v5 v6 v7 v8 v9 v10 v11 v12 v13 v14 v15 v16 [(⟨1,[(⟨5,5⟩:P.S42)]⟩:P.S44)] [(⟨2,[(⟨3,3⟩:P.S42)]⟩:P.S44)] t12.1.f0 t12.1.f1 t12.1.f2 t12.1.f3 aa.1.f0 aa.1.f1 aa.1.f2 aa.1.f3)) else (X1 v1 v2 v3 v4 v5 v6 v7 v8 v9 v10 v11 v12 v13 v14 v15 v16 [(⟨1,[(⟨5,5⟩:P.S42)]⟩:P.S44)] [(⟨2,[(⟨3,3⟩:P.S42)]⟩:P.S44)] t12.1.f0 t12.1.f1 t12.1.f2 t12.1.f3 aa.1.f0 aa.1.f1 aa.1.f2 aa.1.f3))))
end
section
variable {γ:Type} (X0:Int→Int→(List (List P.S42))→(List P.S44)→Int→Int→(List (List P.S42))→(List P.S44)→Int→Int→(List (List P.S42))→(List P.S44)→Int→Int→(List (List P.S42))→(List P.S44)→Option γ) (X1:Bool→Int→Int→(List (List P.S42))→(List P.S44)→Int→Int→(List (List P.S42))→(List P.S44)→Int→Int→(List (List P.S42))→(List P.S44)→Int→Int→(List (List P.S42))→(List P.S44)→(List P.S44)→(List P.S44)→Int→Int→(List (List P.S42))→(List P.S44)→Int→Int→(List (List P.S42))→(List P.S44)→Option γ) (X2:Int→Int→(List (List P.S42))→(List P.S44)→Int→Int→(List (List P.S42))→(List P.S44)→Int→Int→(List (List P.S42))→(List P.S44)→Int→Int→(List (List P.S42))→(List P.S44)→(List P.S44)→(List P.S44)→Int→Int→(List (List P.S42))→(List P.S44)→Int→Int→(List (List P.S42))→(List P.S44)→Option γ)
noncomputable def dw.l1 (k:Nat) (v1:Bool) (v2:Int) (v3:Int) (v4:List (List P.S42)) (v5:List P.S44) (v6:Int) (v7:Int) (v8:List (List P.S42)) (v9:List P.S44):Option γ:=((dD.f k v2 v3 v4 v5 v6 v7 v8 v9).bind fun t9=>((dM.f k v2 v3 v4 v5 v6 v7 v8 v9).bind fun t10=>(if (!v1)=true then (if (!(decide (t9.2=51)))=true then (X0 v2 v3 v4 v5 v6 v7 v8 v9 t9.1.f0 t9.1.f1 t9.1.f2 t9.1.f3 t10.1.f0 t10.1.f1 t10.1.f2 t10.1.f3) else (if (!(decide (t10.2=51)))=true then (X0 v2 v3 v4 v5 v6 v7 v8 v9 t9.1.f0 t9.1.f1 t9.1.f2 t9.1.f3 t10.1.f0 t10.1.f1 t10.1.f2 t10.1.f3) else ((cZ.f k t9.1.f0 t9.1.f1 t9.1.f2 t9.1.f3 0 0 [] []).bind fun t11=>(if (!t11)=true then (X0 v2 v3 v4 v5 v6 v7 v8 v9 t9.1.f0 t9.1.f1 t9.1.f2 t9.1.f3 t10.1.f0 t10.1.f1 t10.1.f2 t10.1.f3) else (dw.l2 X1 X2 k v2 v3 v4 v5 v6 v7 v8 v9 t9.1.f0 t9.1.f1 t9.1.f2 t9.1.f3 t10.1.f0 t10.1.f1 t10.1.f2 t10.1.f3))))) else (dw.l2 X1 X2 k v2 v3 v4 v5 v6 v7 v8 v9 t9.1.f0 t9.1.f1 t9.1.f2 t9.1.f3 t10.1.f0 t10.1.f1 t10.1.f2 t10.1.f3))))
end
section
variable {γ:Type} (X0:Int→Int→(List (List P.S42))→(List P.S44)→Int→Int→(List (List P.S42))→(List P.S44)→Option γ) (X1:Int→Int→(List (List P.S42))→(List P.S44)→Int→Int→(List (List P.S42))→(List P.S44)→Int→Int→(List (List P.S42))→(List P.S44)→Int→Int→(List (List P.S42))→(List P.S44)→Option γ) (X2:Bool→Int→Int→(List (List P.S42))→(List P.S44)→Int→Int→(List (List P.S42))→(List P.S44)→Int→Int→(List (List P.S42))→(List P.S44)→Int→Int→(List (List P.S42))→(List P.S44)→(List P.S44)→(List P.S44)→Int→Int→(List (List P.S42))→(List P.S44)→Int→Int→(List (List P.S42))→(List P.S44)→Option γ) (X3:Int→Int→(List (List P.S42))→(List P.S44)→Int→Int→(List (List P.S42))→(List P.S44)→Int→Int→(List (List P.S42))→(List P.S44)→Int→Int→(List (List P.S42))→(List P.S44)→(List P.S44)→(List P.S44)→Int→Int→(List (List P.S42))→(List P.S44)→Int→Int→(List (List P.S42))→(List P.S44)→Option γ)
noncomputable def dw.l0 (k:Nat) (v1:Int) (v2:Int) (v3:Int) (v4:List (List P.S42)) (v5:List P.S44) (v6:Int) (v7:Int) (v8:List (List P.S42)) (v9:List P.S44):Option γ:=((fK.f k v2 v3 v4 v5 (Int.tmod (wq v1) 300)).bind fun t5=>((fK.f k v6 v7 v8 v9 (Int.tmod (wq v1) 300)).bind fun t6=>((iJ.f k v2 v3 v4 v5 v6 v7 v8 v9).bind fun t7=>(if (decide (t5.2=0))=true then (if (decide (t6.2=0))=true then (if (decide ((t5.1.length:Int)>0))=true then (if (decide ((t6.1.length:Int)>0))=true then ((gq.f k t5.1 t6.1).bind fun t8=>(if (!t8)=true then (if t7.1=true then (X0 v2 v3 v4 v5 v6 v7 v8 v9) else (if (!(decide (t7.2=0)))=true then (if (!(decide (t7.2=51)))=true then (X0 v2 v3 v4 v5 v6 v7 v8 v9) else (dw.l1 X1 X2 X3 k t7.1 v2 v3 v4 v5 v6 v7 v8 v9)) else (dw.l1 X1 X2 X3 k t7.1 v2 v3 v4 v5 v6 v7 v8 v9))) else (dw.l1 X1 X2 X3 k t7.1 v2 v3 v4 v5 v6 v7 v8 v9))) else (dw.l1 X1 X2 X3 k t7.1 v2 v3 v4 v5 v6 v7 v8 v9)) else (dw.l1 X1 X2 X3 k t7.1 v2 v3 v4 v5 v6 v7 v8 v9)) else (dw.l1 X1 X2 X3 k t7.1 v2 v3 v4 v5 v6 v7 v8 v9)) else (dw.l1 X1 X2 X3 k t7.1 v2 v3 v4 v5 v6 v7 v8 v9)))))
end
noncomputable def dw.f (k:Nat) (aa:Int) (ab:Int) (ac:List (List P.S42)) (af:List P.S44) (ah:Int) (ai:Int) (aj:List (List P.S42)) (ak:List P.S44) (a2:Int):Option (Bool):=((dx.f k aa ab ac af).bind fun t1=>(if (!t1)=true then ((eX.f k).bind fun t2=>(some t2)) else ((dx.f k ah ai aj ak).bind fun t3=>(if (!t3)=true then ((eX.f k).bind fun t4=>(some t4)) else (dw.l0 (fun ao ap aq au aw ax ay az=>(some false)) (fun aA aB aC aD aE aF aG aH aI aJ aK aL aM aN aO aP=>(some false)) (fun am aQ aR aS aT aU aV aW aX aY aZ a3 a4 a5 a6 a7 a8 a9 ba bb be bf bg bh bi bj bk=>(some am)) (fun bm bn bo bq br bt bu bv bw bz bA bB bC bD bE bG bH bI bJ bL bM bN bO bP bQ bR=>(some false)) k a2 aa ab ac af ah ai aj ak)))))
noncomputable def j6.f (k:Nat) (a0:Int) (a1:Int):Option (Int):=(if (decide (a1<1))=true then (some 0) else (if a1=0 then none else (if a1=0 then none else (some (Int.tmod (wq ((Int.tmod a0 a1)+a1)) a1)))))
section
variable {γ:Type} (X0:(List (List P.S42))→Option γ) (c1:List (List P.S42)) (c2:Int)
noncomputable def dB.l0T (R:Int→(List (List P.S42))→Option γ) (k:Nat) (v3:Int) (v14:List (List P.S42)):Option γ:=(if (decide (v3<c2))=true then (if 0≤v3 then (if v3<(c1.length:Int) then ((jP.f k (gL c1 v3)).bind fun t3=>(if v14.length+1≤5864062014805 then (R (wq (v3+1)) (v14++[t3])) else none)) else none) else none) else (X0 v14))
noncomputable def dB.l0:Nat→Int→(List (List P.S42))→Option γ
  | 0=>(fun _ _=>none)
  | k+1=>(fun v3 v14=>(dB.l0T X0 c1 c2 (dB.l0 k) k v3 v14))
end
section
variable {γ:Type} (X0:(List P.S44)→Option γ) (c1:List P.S44) (c2:Int)
noncomputable def dB.l1T (R:Int→(List P.S44)→Option γ) (k:Nat) (v3:Int) (v15:List P.S44):Option γ:=(if (decide (v3<c2))=true then (if 0≤v3 then (if v3<(c1.length:Int) then ((jP.f k (gG c1 v3).f1).bind fun t7=>(if v15.length+1≤4398046511104 then (R (wq (v3+1)) (v15++[(⟨(gG c1 v3).f0,t7⟩:P.S44)])) else none)) else none) else none) else (X0 v15))
noncomputable def dB.l1:Nat→Int→(List P.S44)→Option γ
  | 0=>(fun _ _=>none)
  | k+1=>(fun v3 v15=>(dB.l1T X0 c1 c2 (dB.l1 k) k v3 v15))
end
section
variable {γ:Type} (X0:(List (List P.S42))→Option γ) (c1:Int) (c3:Int) (c11:Nat)
noncomputable def dB.l2T (R:Int→(List (List P.S42))→Option γ) (k:Nat) (v4:Int) (v13:List (List P.S42)):Option γ:=(if (decide (v4<c3))=true then (if (Int.tmod v4 8)<0 then none else (if (decide ((IntKind.wrap .u8 (BitVec.ofInt 8 (Int.fdiv c1 (2 ^ (min (Int.toNat (Int.tmod v4 8)) 8))) &&& BitVec.ofInt 8 1).toNat)=0))=true then (if 0≤v4 then (if v4<(c11:Int) then (R (wq (v4+1)) (v13.set (Int.toNat v4) [])) else none) else none) else (R (wq (v4+1)) v13))) else (X0 v13))
noncomputable def dB.l2:Nat→Int→(List (List P.S42))→Option γ
  | 0=>(fun _ _=>none)
  | k+1=>(fun v4 v13=>(dB.l2T X0 c1 c3 c11 (dB.l2 k) k v4 v13))
end
section
variable {γ:Type} (X0:(List P.S44)→Option γ) (c1:Int) (c2:Int) (c3:Nat) (c4:Int) (c11:Int) (c13:Nat)
noncomputable def dB.l3T (R:Int→(List P.S44)→Option γ) (k:Nat) (v5:Int) (v15:List P.S44):Option γ:=(if (decide (v5<c4))=true then (if 0≤v5 then (if v5<(c3:Int) then (if (decide (c11>0))=true then ((j6.f k (gG v15 v5).f0 c11).bind fun t12=>(if (Int.tmod t12 8)<0 then none else (if (decide ((IntKind.wrap .u8 (BitVec.ofInt 8 (Int.fdiv c1 (2 ^ (min (Int.toNat (Int.tmod t12 8)) 8))) &&& BitVec.ofInt 8 1).toNat)=0))=true then (if 0≤v5 then (if v5<(c13:Int) then (R (wq (v5+1)) (v15.set (Int.toNat v5) (⟨(gG v15 v5).f0,[]⟩:P.S44))) else none) else none) else (if (decide ((gG v15 v5).f0=(wq c2)))=true then (if 0≤v5 then (if v5<(c13:Int) then (R (wq (v5+1)) (v15.set (Int.toNat v5) (⟨(gG v15 v5).f0,[]⟩:P.S44))) else none) else none) else (R (wq (v5+1)) v15))))) else (if (decide ((IntKind.wrap .u8 (BitVec.ofInt 8 (Int.fdiv c1 1) &&& BitVec.ofInt 8 1).toNat)=0))=true then (if 0≤v5 then (if v5<(c13:Int) then (R (wq (v5+1)) (v15.set (Int.toNat v5) (⟨(gG v15 v5).f0,[]⟩:P.S44))) else none) else none) else (if (decide ((gG v15 v5).f0=(wq c2)))=true then (if 0≤v5 then (if v5<(c13:Int) then (R (wq (v5+1)) (v15.set (Int.toNat v5) (⟨(gG v15 v5).f0,[]⟩:P.S44))) else none) else none) else (R (wq (v5+1)) v15)))) else none) else none) else (X0 v15))
noncomputable def dB.l3:Nat→Int→(List P.S44)→Option γ
  | 0=>(fun _ _=>none)
  | k+1=>(fun v5 v15=>(dB.l3T X0 c1 c2 c3 c4 c11 c13 (dB.l3 k) k v5 v15))
end
noncomputable def aaQ.f (k:Nat) (a0:List P.S42):Option (Bool):=(some (decide ((a0.length:Int)>0)))
section
variable {γ:Type} (X0:Int→Option γ) (X1:Option γ) (c1:List (List P.S42)) (c2:Int)
noncomputable def aaP.l0T (R:Int→Option γ) (k:Nat) (v3:Int):Option γ:=(if (decide (v3<c2))=true then (if 0≤v3 then (if v3<(c1.length:Int) then ((aaQ.f k (gL c1 v3)).bind fun t3=>(if t3=true then (X0 v3) else (R (wq (v3+1))))) else none) else none) else X1)
noncomputable def aaP.l0:Nat→Int→Option γ
  | 0=>(fun _=>none)
  | k+1=>(fun v3=>(aaP.l0T X0 X1 c1 c2 (aaP.l0 k) k v3))
end
section
variable {γ:Type} (X0:Int→Bool→Option γ) (X1:Bool→Option γ) (c2:Int) (c4:Int) (c5:Int) (c6:List (List P.S42)) (c7:List P.S44) (c8:Int) (c9:Int) (c10:List (List P.S42)) (c11:List P.S44)
noncomputable def uX.l0T (R:Bool→Int→Option γ) (k:Nat) (v1:Bool) (v3:Int):Option γ:=(if (decide (v3<c2))=true then ((gK.f k c4 c5 c6 c7 v3).bind fun t8=>(if (!(decide (t8.2=0)))=true then (X0 t8.2 v1) else (if (decide ((t8.1.length:Int)=0))=true then (R v1 (wq (v3+1))) else ((gK.f k c8 c9 c10 c11 v3).bind fun t9=>(if (!(decide (t9.2=0)))=true then (X0 t9.2 v1) else (if v1=true then ((gq.f k t8.1 t9.1).bind fun t10=>(R t10 (wq (v3+1)))) else (R false (wq (v3+1))))))))) else (X1 v1))
noncomputable def uX.l0:Nat→Bool→Int→Option γ
  | 0=>(fun _ _=>none)
  | k+1=>(fun v1 v3=>(uX.l0T X0 X1 c2 c4 c5 c6 c7 c8 c9 c10 c11 (uX.l0 k) k v1 v3))
end
section
variable {γ:Type} (X0:(List Int)→Option γ) (c2:List P.S44) (c3:Int)
end
section
variable {γ:Type} (X0:Option γ) (X1:Option γ) (c1:List Int) (c2:Int) (c4:Int) (c5:Int) (c6:List (List P.S42)) (c7:List P.S44) (c8:Int) (c9:Int) (c10:List (List P.S42)) (c11:List P.S44)
end
section
variable {γ:Type} (Y0:Int→Bool→Bool→(List P.S42)→Bool→Int→(List P.S42)→(List P.S42)→((List P.S42)→Bool→Int→(List P.S42)→(List P.S42)→Option γ)→Option γ) (X0:(List P.S42)→Bool→Int→(List P.S42)→(List P.S42)→Option γ)
end
section
variable {γ:Type} (Y0:Int→Bool→Bool→(List P.S42)→Bool→Int→(List P.S42)→(List P.S42)→((List P.S42)→Bool→Int→(List P.S42)→(List P.S42)→Option γ)→Option γ) (X0:(List P.S42)→Bool→Int→(List P.S42)→(List P.S42)→Option γ)
end
section
variable {γ:Type} (Y0:Int→Bool→Bool→(List P.S42)→Bool→Int→(List P.S42)→(List P.S42)→((List P.S42)→Bool→Int→(List P.S42)→(List P.S42)→Option γ)→Option γ) (X0:(List P.S42)→Bool→Int→(List P.S42)→(List P.S42)→Option γ)
end
section
variable {γ:Type} (X0:Option γ) (X1:Option γ) (c1:List (List P.S42)) (c2:List (List P.S42)) (c3:Int)
end
section
variable {γ:Type} (X0:Option γ) (X1:Option γ) (c1:List P.S44) (c2:List P.S44) (c3:Int)
end
section
variable {γ:Type} (X0:(List Int)→Option γ) (c2:List P.S44) (c3:Int)
end
section
variable {γ:Type} (X0:Option γ) (X1:Option γ) (c1:List Int) (c2:Int) (c8:Int) (c9:Int) (c10:List (List P.S42)) (c11:List P.S44) (c12:Int) (c13:Int) (c14:List (List P.S42)) (c15:List P.S44) (c16:Int) (c17:Int) (c18:List (List P.S42)) (c19:List P.S44) (c20:Int) (c21:Int) (c22:List (List P.S42)) (c23:List P.S44) (c24:Int) (c25:Int) (c26:List (List P.S42)) (c27:List P.S44)
end
end Go.Proofs.YtcomnjodjijcmaaGreat.R
namespace Go.Proofs.YtcomnjodjijcmaaGreat.R
open M Go.RowKit Go.Proofs.YtcomnjodjijcmaaGreatW.dA Go.Proofs.YtcomnjodjijcmaaGreatW.dW Go.Proofs.YtcomnjodjijcmaaGreatW.eD
set_option linter.unusedVariables false
noncomputable def dR.m (k:Nat):Sm:=iY [.fm] [.pl (.int .i64)] (fun a=>dR.f k a.1.f0 a.1.f1 a.1.f2 a.1.f3)
noncomputable def dR.l0.p:PS:=⟨[nO,.one (.bp 0 0),nO,.one (.i .i64)]++nOs 5++[.one (.s (.sl 42 .sp)),.one (.i .i64),.one (.i .i64)]++nOs 22,[.box 25 [.i .i64,.i .i64,.s (.sl 42 .sp),.s .gr]]⟩
noncomputable def dR.l0.c {γ:Type} (YK:HdK γ) (K:dS→St→Option γ) (c5:Int) (c6:Int) (c7:List (List P.S42)) (c8:List P.S44):=(fun y1=>K (.exit 0) ((⟨[nO,.one (.bp 0 0),nO,.one (.i .i64)]++nOs 30,[.box 25 [.i .i64,.i .i64,.s (.sl 42 .sp),.s .gr]]⟩:PS).mk' [.i y1,.i c5,.i c6,.l (.sl 42 .sp) c7,.l .gr c8]))
noncomputable def dR.l0.g {γ:Type} (YK:HdK γ) (k:Nat) (K:dS→St→Option γ):List Lf→Option γ
  | [.i v1,.l (.sl 42 .sp) c2,.i c3,.i v4,.i c5,.i c6,.l (.sl 42 .sp) c7,.l .gr c8]=>dR.l0 (dR.l0.c YK K c5 c6 c7 c8) c2 c3 k v1 v4
  | _=>none
noncomputable def dR.l1.p:PS:=⟨nOs 3++[.one (.i .i64)]++nOs 17++[.one (.s .gr),.one (.i .i64),.one (.i .i64)]++nOs 10,[.box 25 [.i .i64,.i .i64,.s (.sl 42 .sp),.s .gr]]⟩
noncomputable def dR.l1.c {γ:Type} (YK:HdK γ) (K:dS→St→Option γ) (c5:Int) (c6:Int) (c7:List (List P.S42)) (c8:List P.S44):=(fun y1=>K (.exit 2) ((⟨nOs 3++[.one (.i .i64)]++nOs 30,[.box 25 [.i .i64,.i .i64,.s (.sl 42 .sp),.s .gr]]⟩:PS).mk' [.i y1,.i c5,.i c6,.l (.sl 42 .sp) c7,.l .gr c8]))
noncomputable def dR.l1.g {γ:Type} (YK:HdK γ) (k:Nat) (K:dS→St→Option γ):List Lf→Option γ
  | [.i v1,.l .gr c2,.i c3,.i v4,.i c5,.i c6,.l (.sl 42 .sp) c7,.l .gr c8]=>dR.l1 (dR.l1.c YK K c5 c6 c7 c8) c2 c3 k v1 v4
  | _=>none
noncomputable def dR.C {γ:Type}:Ctx γ:=mkC (fun k=>mkE [] []) [(108,Tryz.f108)] [(108,mkA [] [(0,[1,3,9,10,11]),(2,[3,21,22,23])] [(0,[1,3]),(2,[3])] [])] [⟨0,108,0,gY [(dR.l0.p,dR.l0.g)]⟩,⟨0,108,2,gY [(dR.l1.p,dR.l1.g)]⟩] []
theorem dR.l0.eq {γ:Type} (YK:HdK γ) (rl:Option Nat) (K:dS→St→Option γ) (c2:List (List P.S42)) (c3:Int) (c5:Int) (c6:Int) (c7:List (List P.S42)) (c8:List P.S44):∀ k:Nat,(fun (v1:Int) (v4:Int)=>dR.C.lK 0 108 0 Tryz.f108 YK rl 1 k (dR.l0.p.mk' [.i v1,.l (.sl 42 .sp) c2,.i c3,.i v4,.i c5,.i c6,.l (.sl 42 .sp) c7,.l .gr c8]) K)=(fun (v1:Int) (v4:Int)=>dR.l0.g YK k K [.i v1,.l (.sl 42 .sp) c2,.i c3,.i v4,.i c5,.i c6,.l (.sl 42 .sp) c7,.l .gr c8]):=eZ (fun R k v1 v4=>dR.l0T (dR.l0.c YK K c5 c6 c7 c8) c2 c3 R k v1 v4) (by kernel_rfl) (fun k=>by kernel_rfl) (fun k=>by kernel_rfl)
theorem dR.l1.eq {γ:Type} (YK:HdK γ) (rl:Option Nat) (K:dS→St→Option γ) (c2:List P.S44) (c3:Int) (c5:Int) (c6:Int) (c7:List (List P.S42)) (c8:List P.S44):∀ k:Nat,(fun (v1:Int) (v4:Int)=>dR.C.lK 0 108 2 Tryz.f108 YK rl 1 k (dR.l1.p.mk' [.i v1,.l .gr c2,.i c3,.i v4,.i c5,.i c6,.l (.sl 42 .sp) c7,.l .gr c8]) K)=(fun (v1:Int) (v4:Int)=>dR.l1.g YK k K [.i v1,.l .gr c2,.i c3,.i v4,.i c5,.i c6,.l (.sl 42 .sp) c7,.l .gr c8]):=eZ (fun R k v1 v4=>dR.l1T (dR.l1.c YK K c5 c6 c7 c8) c2 c3 R k v1 v4) (by kernel_rfl) (fun k=>by kernel_rfl) (fun k=>by kernel_rfl)
theorem dR.fE {γ:Type}:(dR.C (γ:=γ)).Ok:=⟨(all_cons (fun k=>by kernel_rfl) all_nil),(all_cons (by kernel_rfl) all_nil),all_nil⟩
theorem dR.e0 {γ:Type}:gy (dR.C (γ:=γ)) ⟨0,108,0,gY [(dR.l0.p,dR.l0.g)]⟩:=dR.fE.jW Tryz.f108 [] (by kernel_rfl) (by kernel_rfl) (by kernel_rfl) (all_cons iE (all_cons iE all_nil)) (all_cons (fun YK rl k ls K v hv=>(show dR.l0.g YK k K ls=some v→_ from fun hv=>by
  unfold dR.l0.g at hv;split at hv
  · exact (congrFun (congrFun (dR.l0.eq YK rl K _ _ _ _ _ _ k) _) _).trans hv
  · cases hv) hv) all_nil)
theorem dR.e1 {γ:Type}:gy (dR.C (γ:=γ)) ⟨0,108,2,gY [(dR.l1.p,dR.l1.g)]⟩:=dR.fE.jW Tryz.f108 [] (by kernel_rfl) (by kernel_rfl) (by kernel_rfl) (all_cons iE (all_cons iE all_nil)) (all_cons (fun YK rl k ls K v hv=>(show dR.l1.g YK k K ls=some v→_ from fun hv=>by
  unfold dR.l1.g at hv;split at hv
  · exact (congrFun (congrFun (dR.l1.eq YK rl K _ _ _ _ _ _ k) _) _).trans hv
  · cases hv) hv) all_nil)
theorem dR.ok (k:Nat):iV Tryz.prog 108 (dR.m k).s:=okW dR.fE 0 Tryz.f108 k all_nil (fun k=>all_nil) (all_cons ⟨Tryz.func108,by kernel_rfl⟩ all_nil) (all_cons dR.e0 (all_cons dR.e1 all_nil)) (by kernel_rfl) (by kernel_rfl) (fun a=>by kernel_rfl)
noncomputable def fJ.m (k:Nat):Sm:=iY [(.int .i64)] [.pl .bool] (fun a=>fJ.f k a.1)
noncomputable def fJ.C {γ:Type}:Ctx γ:=mkC (fun k=>mkE [] []) [(53,Tryz.f53)] [(53,mkA [] [] [] [])] [] []
theorem fJ.fE {γ:Type}:(fJ.C (γ:=γ)).Ok:=⟨(all_cons (fun k=>by kernel_rfl) all_nil),(all_cons (by kernel_rfl) all_nil),all_nil⟩
theorem fJ.ok (k:Nat):iV Tryz.prog 53 (fJ.m k).s:=okW fJ.fE 0 Tryz.f53 k all_nil (fun k=>all_nil) (all_cons ⟨Tryz.func53,by kernel_rfl⟩ all_nil) all_nil (by kernel_rfl) (by kernel_rfl) (fun a=>by kernel_rfl)
noncomputable def gu.m (k:Nat):Sm:=iY [(.int .i64)] [.pl .bool] (fun a=>gu.f k a.1)
noncomputable def gu.C {γ:Type}:Ctx γ:=mkC (fun k=>mkE [] []) [(107,Tryz.f107)] [(107,mkA [] [] [] [])] [] []
theorem gu.fE {γ:Type}:(gu.C (γ:=γ)).Ok:=⟨(all_cons (fun k=>by kernel_rfl) all_nil),(all_cons (by kernel_rfl) all_nil),all_nil⟩
theorem gu.ok (k:Nat):iV Tryz.prog 107 (gu.m k).s:=okW gu.fE 0 Tryz.f107 k all_nil (fun k=>all_nil) (all_cons ⟨Tryz.func107,by kernel_rfl⟩ all_nil) all_nil (by kernel_rfl) (by kernel_rfl) (fun a=>by kernel_rfl)
noncomputable def dY.m (k:Nat):Sm:=iY [(.sl 42 .sp)] [.pl .bool] (fun a=>dY.f k a.1)
noncomputable def dY.l0.p:PS:=⟨[.one (.s .sp)]++nOs 4++[.one (.s .sp),.one (.i .i64),.one (.i .i64)]++nOs 38,[]⟩
noncomputable def dY.l0.c {γ:Type} (YK:HdK γ) (K:dS→St→Option γ)  := ((K .ret ((⟨[nO,nO,.one (.lb false)]++nOs 43,[]⟩:PS).mk' [])),(K (.exit 0) ((⟨nOs 46,[]⟩:PS).mk' [])))
noncomputable def dY.l0.g {γ:Type} (YK:HdK γ) (k:Nat) (K:dS→St→Option γ):List Lf→Option γ
  | [.l .sp c1,.l .sp c2,.i c3,.i v4]=>let q:=dY.l0.c YK K;dY.l0 q.1 q.2 c1 c2 c3 k v4
  | _=>none
noncomputable def dY.C {γ:Type}:Ctx γ:=mkC (fun k=>mkE [(107,gu.m k)] []) [(146,Tryz.f146)] [(146,mkA [] [(0,[0,5,6,7])] [(0,[2])] [])] [⟨0,146,0,gY [(dY.l0.p,dY.l0.g)]⟩] []
theorem dY.l0.eq {γ:Type} (YK:HdK γ) (rl:Option Nat) (K:dS→St→Option γ) (c1:List P.S42) (c2:List P.S42) (c3:Int):∀ k:Nat,(fun (v4:Int)=>dY.C.lK 0 146 0 Tryz.f146 YK rl 0 k (dY.l0.p.mk' [.l .sp c1,.l .sp c2,.i c3,.i v4]) K)=(fun (v4:Int)=>dY.l0.g YK k K [.l .sp c1,.l .sp c2,.i c3,.i v4]):=eZ (fun R k v4=>dY.l0T (dY.l0.c YK K).1 (dY.l0.c YK K).2 c1 c2 c3 R k v4) (by kernel_rfl) (fun k=>by kernel_rfl) (fun k=>by kernel_rfl)
theorem dY.fE {γ:Type}:(dY.C (γ:=γ)).Ok:=⟨(all_cons (fun k=>by kernel_rfl) all_nil),(all_cons (by kernel_rfl) all_nil),all_nil⟩
theorem dY.e0 {γ:Type}:gy (dY.C (γ:=γ)) ⟨0,146,0,gY [(dY.l0.p,dY.l0.g)]⟩:=dY.fE.jW Tryz.f146 [] (by kernel_rfl) (by kernel_rfl) (by kernel_rfl) (all_cons iE all_nil) (all_cons (fun YK rl k ls K v hv=>(show dY.l0.g YK k K ls=some v→_ from fun hv=>by
  unfold dY.l0.g at hv;split at hv
  · exact (congrFun (dY.l0.eq YK rl K _ _ _ k) _).trans hv
  · cases hv) hv) all_nil)
theorem dY.ok (k:Nat):iV Tryz.prog 146 (dY.m k).s:=okW dY.fE 0 Tryz.f146 k all_nil (fun k=>all_cons (gu.ok k) (all_nil)) (all_cons ⟨Tryz.func146,by kernel_rfl⟩ all_nil) (all_cons dY.e0 all_nil) (by kernel_rfl) (by kernel_rfl) (fun a=>by kernel_rfl)
noncomputable def dF.m (k:Nat):Sm:=iY [.fm] [.pl .bool] (fun a=>dF.f k a.1.f0 a.1.f1 a.1.f2 a.1.f3)
noncomputable def dF.l1.p:PS:=⟨[nO,.one (.bp 0 0)]++nOs 31++[.one (.s (.sl 42 .sp)),.one (.i .i64),.one (.i .i64)]++nOs 42,[.box 25 [.i .i64,.i .i64,.s (.sl 42 .sp),.s .gr]]⟩
noncomputable def dF.l1.c {γ:Type} (YK:HdK γ) (K:dS→St→Option γ) (c4:Int) (c5:Int) (c6:List (List P.S42)) (c7:List P.S44):=((K .ret ((⟨[nO,.one (.bp 0 0),.one (.lb false)]++nOs 75,[.box 25 [.i .i64,.i .i64,.s (.sl 42 .sp),.s .gr]]⟩:PS).mk' [.i c4,.i c5,.l (.sl 42 .sp) c6,.l .gr c7])),(K (.exit 0) ((⟨[nO,.one (.bp 0 0)]++nOs 76,[.box 25 [.i .i64,.i .i64,.s (.sl 42 .sp),.s .gr]]⟩:PS).mk' [.i c4,.i c5,.l (.sl 42 .sp) c6,.l .gr c7])))
noncomputable def dF.l1.g {γ:Type} (YK:HdK γ) (k:Nat) (K:dS→St→Option γ):List Lf→Option γ
  | [.l (.sl 42 .sp) c1,.i c2,.i v3,.i c4,.i c5,.l (.sl 42 .sp) c6,.l .gr c7]=>let q:=dF.l1.c YK K c4 c5 c6 c7;dF.l1 q.1 q.2 c1 c2 k v3
  | _=>none
noncomputable def dF.l2.p:PS:=⟨[nO,.one (.bp 0 0)]++nOs 42++[.one (.s .gr),.one (.i .i64),.one (.i .i64)]++nOs 31,[.box 25 [.i .i64,.i .i64,.s (.sl 42 .sp),.s .gr]]⟩
noncomputable def dF.l2.c {γ:Type} (YK:HdK γ) (K:dS→St→Option γ) (c4:Int) (c5:Int) (c6:List (List P.S42)) (c7:List P.S44):=((K .ret ((⟨[nO,nO,.one (.lb false)]++nOs 75,[.box 25 [.i .i64,.i .i64,.s (.sl 42 .sp),.s .gr]]⟩:PS).mk' [.i c4,.i c5,.l (.sl 42 .sp) c6,.l .gr c7])),(K (.exit 2) ((⟨nOs 78,[.box 25 [.i .i64,.i .i64,.s (.sl 42 .sp),.s .gr]]⟩:PS).mk' [.i c4,.i c5,.l (.sl 42 .sp) c6,.l .gr c7])))
noncomputable def dF.l2.g {γ:Type} (YK:HdK γ) (k:Nat) (K:dS→St→Option γ):List Lf→Option γ
  | [.l .gr c1,.i c2,.i v3,.i c4,.i c5,.l (.sl 42 .sp) c6,.l .gr c7]=>let q:=dF.l2.c YK K c4 c5 c6 c7;dF.l2 q.1 q.2 c1 c2 c7 k v3
  | _=>none
noncomputable def dF.l0.p:PS:=⟨[nO,.one (.bp 0 0)]++nOs 76,[.box 25 [.i .i64,.i .i64,.s (.sl 42 .sp),.s .gr]]⟩
noncomputable def dF.l0.c {γ:Type} (YK:HdK γ) (K:dS→St→Option γ)  := ((fun y1 y2 y3 y4=>K .ret ((⟨[nO,nO,.one (.lb false)]++nOs 75,[.box 25 [.i .i64,.i .i64,.s (.sl 42 .sp),.s .gr]]⟩:PS).mk' [.i y1,.i y2,.l (.sl 42 .sp) y3,.l .gr y4])),(fun y1 y2 y3 y4=>K .ret ((⟨[nO,nO,.one (.lb true)]++nOs 75,[.box 25 [.i .i64,.i .i64,.s (.sl 42 .sp),.s .gr]]⟩:PS).mk' [.i y1,.i y2,.l (.sl 42 .sp) y3,.l .gr y4])))
noncomputable def dF.l0.g {γ:Type} (YK:HdK γ) (k:Nat) (K:dS→St→Option γ):List Lf→Option γ
  | [.i v1,.i v2,.l (.sl 42 .sp) v3,.l .gr v4]=>let q:=dF.l0.c YK K;dF.l0 q.1 q.2 k v1 v2 v3 v4
  | _=>none
noncomputable def dF.C {γ:Type}:Ctx γ:=mkC (fun k=>mkE [(53,fJ.m k),(146,dY.m k)] []) [(109,Tryz.f109)] [(109,mkA [] [(0,[1,33,34,35]),(2,[1,44,45,46]),(1000010,[1])] [(0,[1,2]),(2,[2]),(1000010,[2])] [])] [⟨0,109,0,gY [(dF.l1.p,dF.l1.g)]⟩,⟨0,109,2,gY [(dF.l2.p,dF.l2.g)]⟩,⟨0,109,1000010,gY [(dF.l0.p,dF.l0.g)]⟩] []
theorem dF.l1.eq {γ:Type} (YK:HdK γ) (rl:Option Nat) (K:dS→St→Option γ) (c1:List (List P.S42)) (c2:Int) (c4:Int) (c5:Int) (c6:List (List P.S42)) (c7:List P.S44):∀ k:Nat,(fun (v3:Int)=>dF.C.lK 0 109 0 Tryz.f109 YK rl 1 k (dF.l1.p.mk' [.l (.sl 42 .sp) c1,.i c2,.i v3,.i c4,.i c5,.l (.sl 42 .sp) c6,.l .gr c7]) K)=(fun (v3:Int)=>dF.l1.g YK k K [.l (.sl 42 .sp) c1,.i c2,.i v3,.i c4,.i c5,.l (.sl 42 .sp) c6,.l .gr c7]):=eZ (fun R k v3=>dF.l1T (dF.l1.c YK K c4 c5 c6 c7).1 (dF.l1.c YK K c4 c5 c6 c7).2 c1 c2 R k v3) (by kernel_rfl) (fun k=>by kernel_rfl) (fun k=>by kernel_rfl)
theorem dF.l2.eq {γ:Type} (YK:HdK γ) (rl:Option Nat) (K:dS→St→Option γ) (c1:List P.S44) (c2:Int) (c4:Int) (c5:Int) (c6:List (List P.S42)) (c7:List P.S44):∀ k:Nat,(fun (v3:Int)=>dF.C.lK 0 109 2 Tryz.f109 YK rl 1 k (dF.l2.p.mk' [.l .gr c1,.i c2,.i v3,.i c4,.i c5,.l (.sl 42 .sp) c6,.l .gr c7]) K)=(fun (v3:Int)=>dF.l2.g YK k K [.l .gr c1,.i c2,.i v3,.i c4,.i c5,.l (.sl 42 .sp) c6,.l .gr c7]):=eZ (fun R k v3=>dF.l2T (dF.l2.c YK K c4 c5 c6 c7).1 (dF.l2.c YK K c4 c5 c6 c7).2 c1 c2 c7 R k v3) (by kernel_rfl) (fun k=>by kernel_rfl) (fun k=>by kernel_rfl)
theorem dF.l0.eq {γ:Type} (YK:HdK γ) (rl:Option Nat) (K:dS→St→Option γ) (k:Nat) (v1:Int) (v2:Int) (v3:List (List P.S42)) (v4:List P.S44):dF.C.lK 0 109 1000010 Tryz.f109 YK rl 1 k (dF.l0.p.mk' [.i v1,.i v2,.l (.sl 42 .sp) v3,.l .gr v4]) K=dF.l0.g YK k K [.i v1,.i v2,.l (.sl 42 .sp) v3,.l .gr v4]:=by kernel_rfl
theorem dF.fE {γ:Type}:(dF.C (γ:=γ)).Ok:=⟨(all_cons (fun k=>by kernel_rfl) all_nil),(all_cons (by kernel_rfl) all_nil),all_nil⟩
theorem dF.e0 {γ:Type}:gy (dF.C (γ:=γ)) ⟨0,109,0,gY [(dF.l1.p,dF.l1.g)]⟩:=dF.fE.jW Tryz.f109 [] (by kernel_rfl) (by kernel_rfl) (by kernel_rfl) (all_cons iE (all_cons iE (all_cons iE all_nil))) (all_cons (fun YK rl k ls K v hv=>(show dF.l1.g YK k K ls=some v→_ from fun hv=>by
  unfold dF.l1.g at hv;split at hv
  · exact (congrFun (dF.l1.eq YK rl K _ _ _ _ _ _ k) _).trans hv
  · cases hv) hv) all_nil)
theorem dF.e1 {γ:Type}:gy (dF.C (γ:=γ)) ⟨0,109,2,gY [(dF.l2.p,dF.l2.g)]⟩:=dF.fE.jW Tryz.f109 [] (by kernel_rfl) (by kernel_rfl) (by kernel_rfl) (all_cons iE (all_cons iE (all_cons iE all_nil))) (all_cons (fun YK rl k ls K v hv=>(show dF.l2.g YK k K ls=some v→_ from fun hv=>by
  unfold dF.l2.g at hv;split at hv
  · exact (congrFun (dF.l2.eq YK rl K _ _ _ _ _ _ k) _).trans hv
  · cases hv) hv) all_nil)
theorem dF.e2 {γ:Type}:gy (dF.C (γ:=γ)) ⟨0,109,1000010,gY [(dF.l0.p,dF.l0.g)]⟩:=dF.fE.jW Tryz.f109 [0,2] (by kernel_rfl) (by kernel_rfl) (by kernel_rfl) (all_cons (fun _=>dF.e0) (all_cons (fun _=>dF.e1) (all_cons iE all_nil))) (all_cons (fun YK rl k ls K v hv=>(show dF.l0.g YK k K ls=some v→_ from fun hv=>by
  unfold dF.l0.g at hv;split at hv
  · exact (dF.l0.eq YK rl K k _ _ _ _).trans hv
  · cases hv) hv) all_nil)
theorem dF.ok (k:Nat):iV Tryz.prog 109 (dF.m k).s:=okW dF.fE 0 Tryz.f109 k all_nil (fun k=>all_cons (fJ.ok k) (all_cons (dY.ok k) (all_nil))) (all_cons ⟨Tryz.func109,by kernel_rfl⟩ all_nil) (all_cons dF.e0 (all_cons dF.e1 (all_cons dF.e2 all_nil))) (by kernel_rfl) (by kernel_rfl) (fun a=>by kernel_rfl)
noncomputable def dK.m (k:Nat):Sm:=iY [.fm] [.pl .bool] (fun a=>dK.f k a.1.f0 a.1.f1 a.1.f2 a.1.f3)
noncomputable def dK.l0.p:PS:=⟨[nO,.one (.bp 0 0),nO,.one (.o 37 (.sl 42 .sp))]++nOs 7++[.one (.s (.sl 42 .sp)),.one (.i .i64),.one (.i .i64)]++nOs 48,[.box 25 [.i .i64,.i .i64,.s (.sl 42 .sp),.s .gr]]⟩
noncomputable def dK.l0.c {γ:Type} (YK:HdK γ) (K:dS→St→Option γ) (c5:Int) (c6:Int) (c7:List (List P.S42)) (c8:List P.S44):=(fun y1=>K (.exit 0) ((⟨[nO,.one (.bp 0 0),nO,.one (.o 37 (.sl 42 .sp))]++nOs 58,[.box 25 [.i .i64,.i .i64,.s (.sl 42 .sp),.s .gr]]⟩:PS).mk' [.l (.sl 42 .sp) y1,.i c5,.i c6,.l (.sl 42 .sp) c7,.l .gr c8]))
noncomputable def dK.l0.g {γ:Type} (YK:HdK γ) (k:Nat) (K:dS→St→Option γ):List Lf→Option γ
  | [.l (.sl 42 .sp) v1,.l (.sl 42 .sp) c2,.i c3,.i v4,.i c5,.i c6,.l (.sl 42 .sp) c7,.l .gr c8]=>dK.l0 (dK.l0.c YK K c5 c6 c7 c8) c2 c3 k v1 v4
  | _=>none
noncomputable def dK.l1.p:PS:=⟨[nO,.one (.bp 0 0),nO,.one (.o 37 (.sl 42 .sp))]++nOs 21++[.one (.s (.sl 42 .sp)),.one (.i .i64),.one (.i .i64)]++nOs 34,[.box 25 [.i .i64,.i .i64,.s (.sl 42 .sp),.s .gr]]⟩
noncomputable def dK.l1.c {γ:Type} (YK:HdK γ) (K:dS→St→Option γ) (c5:Int) (c6:Int) (c7:List (List P.S42)) (c8:List P.S44):=((K .ret ((⟨[nO,nO,.one (.lb false)]++nOs 59,[.box 25 [.i .i64,.i .i64,.s (.sl 42 .sp),.s .gr]]⟩:PS).mk' [.i c5,.i c6,.l (.sl 42 .sp) c7,.l .gr c8])),(K (.exit 2) ((⟨nOs 62,[.box 25 [.i .i64,.i .i64,.s (.sl 42 .sp),.s .gr]]⟩:PS).mk' [.i c5,.i c6,.l (.sl 42 .sp) c7,.l .gr c8])))
noncomputable def dK.l1.g {γ:Type} (YK:HdK γ) (k:Nat) (K:dS→St→Option γ):List Lf→Option γ
  | [.l (.sl 42 .sp) c1,.l (.sl 42 .sp) c2,.i c3,.i v4,.i c5,.i c6,.l (.sl 42 .sp) c7,.l .gr c8]=>let q:=dK.l1.c YK K c5 c6 c7 c8;dK.l1 q.1 q.2 c1 c2 c3 c5 k v4
  | _=>none
noncomputable def dK.C {γ:Type}:Ctx γ:=mkC (fun k=>mkE [] []) [(110,Tryz.f110)] [(110,mkA [20] [(0,[1,3,11,12,13]),(2,[1,3,25,26,27])] [(0,[1,3]),(2,[2])] [])] [⟨0,110,0,gY [(dK.l0.p,dK.l0.g)]⟩,⟨0,110,2,gY [(dK.l1.p,dK.l1.g)]⟩] []
theorem dK.l0.eq {γ:Type} (YK:HdK γ) (rl:Option Nat) (K:dS→St→Option γ) (c2:List (List P.S42)) (c3:Int) (c5:Int) (c6:Int) (c7:List (List P.S42)) (c8:List P.S44):∀ k:Nat,(fun (v1:List (List P.S42)) (v4:Int)=>dK.C.lK 0 110 0 Tryz.f110 YK rl 1 k (dK.l0.p.mk' [.l (.sl 42 .sp) v1,.l (.sl 42 .sp) c2,.i c3,.i v4,.i c5,.i c6,.l (.sl 42 .sp) c7,.l .gr c8]) K)=(fun (v1:List (List P.S42)) (v4:Int)=>dK.l0.g YK k K [.l (.sl 42 .sp) v1,.l (.sl 42 .sp) c2,.i c3,.i v4,.i c5,.i c6,.l (.sl 42 .sp) c7,.l .gr c8]):=eZ (fun R k v1 v4=>dK.l0T (dK.l0.c YK K c5 c6 c7 c8) c2 c3 R k v1 v4) (by kernel_rfl) (fun k=>by kernel_rfl) (fun k=>by kernel_rfl)
theorem dK.l1.eq {γ:Type} (YK:HdK γ) (rl:Option Nat) (K:dS→St→Option γ) (c1:List (List P.S42)) (c2:List (List P.S42)) (c3:Int) (c5:Int) (c6:Int) (c7:List (List P.S42)) (c8:List P.S44):∀ k:Nat,(fun (v4:Int)=>dK.C.lK 0 110 2 Tryz.f110 YK rl 1 k (dK.l1.p.mk' [.l (.sl 42 .sp) c1,.l (.sl 42 .sp) c2,.i c3,.i v4,.i c5,.i c6,.l (.sl 42 .sp) c7,.l .gr c8]) K)=(fun (v4:Int)=>dK.l1.g YK k K [.l (.sl 42 .sp) c1,.l (.sl 42 .sp) c2,.i c3,.i v4,.i c5,.i c6,.l (.sl 42 .sp) c7,.l .gr c8]):=eZ (fun R k v4=>dK.l1T (dK.l1.c YK K c5 c6 c7 c8).1 (dK.l1.c YK K c5 c6 c7 c8).2 c1 c2 c3 c5 R k v4) (by kernel_rfl) (fun k=>by kernel_rfl) (fun k=>by kernel_rfl)
theorem dK.fE {γ:Type}:(dK.C (γ:=γ)).Ok:=⟨(all_cons (fun k=>by kernel_rfl) all_nil),(all_cons (by kernel_rfl) all_nil),all_nil⟩
theorem dK.e0 {γ:Type}:gy (dK.C (γ:=γ)) ⟨0,110,0,gY [(dK.l0.p,dK.l0.g)]⟩:=dK.fE.jW Tryz.f110 [] (by kernel_rfl) (by kernel_rfl) (by kernel_rfl) (all_cons iE (all_cons iE all_nil)) (all_cons (fun YK rl k ls K v hv=>(show dK.l0.g YK k K ls=some v→_ from fun hv=>by
  unfold dK.l0.g at hv;split at hv
  · exact (congrFun (congrFun (dK.l0.eq YK rl K _ _ _ _ _ _ k) _) _).trans hv
  · cases hv) hv) all_nil)
theorem dK.e1 {γ:Type}:gy (dK.C (γ:=γ)) ⟨0,110,2,gY [(dK.l1.p,dK.l1.g)]⟩:=dK.fE.jW Tryz.f110 [] (by kernel_rfl) (by kernel_rfl) (by kernel_rfl) (all_cons iE (all_cons iE all_nil)) (all_cons (fun YK rl k ls K v hv=>(show dK.l1.g YK k K ls=some v→_ from fun hv=>by
  unfold dK.l1.g at hv;split at hv
  · exact (congrFun (dK.l1.eq YK rl K _ _ _ _ _ _ _ k) _).trans hv
  · cases hv) hv) all_nil)
theorem dK.ok (k:Nat):iV Tryz.prog 110 (dK.m k).s:=okW dK.fE 0 Tryz.f110 k all_nil (fun k=>all_nil) (all_cons ⟨Tryz.func110,by kernel_rfl⟩ all_nil) (all_cons dK.e0 (all_cons dK.e1 all_nil)) (by kernel_rfl) (by kernel_rfl) (fun a=>by kernel_rfl)
noncomputable def fM.m (k:Nat):Sm:=iY [(.int .i64),(.int .i64)] [.pl (.int .i64),.pl (.int .i64),.pl (.int .i64)] (fun a=>fM.f k a.1 a.2.1)
noncomputable def fM.C {γ:Type}:Ctx γ:=mkC (fun k=>mkE [] []) [(70,Tryz.f70)] [(70,mkA [] [] [] [])] [] []
theorem fM.fE {γ:Type}:(fM.C (γ:=γ)).Ok:=⟨(all_cons (fun k=>by kernel_rfl) all_nil),(all_cons (by kernel_rfl) all_nil),all_nil⟩
theorem fM.ok (k:Nat):iV Tryz.prog 70 (fM.m k).s:=okW fM.fE 0 Tryz.f70 k all_nil (fun k=>all_nil) (all_cons ⟨Tryz.func70,by kernel_rfl⟩ all_nil) all_nil (by kernel_rfl) (by kernel_rfl) (fun a=>by kernel_rfl)
noncomputable def cmp_isNaN_int.m (k:Nat):Sm:=iY [(.int .i64)] [.pl .bool] (fun a=>cmp_isNaN_int.f k a.1)
noncomputable def cmp_isNaN_int.C {γ:Type}:Ctx γ:=mkC (fun k=>mkE [] []) [(172,Tryz.f172)] [(172,mkA [] [] [] [])] [] []
theorem cmp_isNaN_int.fE {γ:Type}:(cmp_isNaN_int.C (γ:=γ)).Ok:=⟨(all_cons (fun k=>by kernel_rfl) all_nil),(all_cons (by kernel_rfl) all_nil),all_nil⟩
theorem cmp_isNaN_int.ok (k:Nat):iV Tryz.prog 172 (cmp_isNaN_int.m k).s:=okW cmp_isNaN_int.fE 0 Tryz.f172 k all_nil (fun k=>all_nil) (all_cons ⟨Tryz.func172,by kernel_rfl⟩ all_nil) all_nil (by kernel_rfl) (by kernel_rfl) (fun a=>by kernel_rfl)
noncomputable def cmp_Compare_int.m (k:Nat):Sm:=iY [(.int .i64),(.int .i64)] [.pl (.int .i64)] (fun a=>cmp_Compare_int.f k a.1 a.2.1)
noncomputable def cmp_Compare_int.C {γ:Type}:Ctx γ:=mkC (fun k=>mkE [(172,cmp_isNaN_int.m k)] []) [(142,Tryz.f142)] [(142,mkA [] [] [] [])] [] []
theorem cmp_Compare_int.fE {γ:Type}:(cmp_Compare_int.C (γ:=γ)).Ok:=⟨(all_cons (fun k=>by kernel_rfl) all_nil),(all_cons (by kernel_rfl) all_nil),all_nil⟩
theorem cmp_Compare_int.ok (k:Nat):iV Tryz.prog 142 (cmp_Compare_int.m k).s:=okW cmp_Compare_int.fE 0 Tryz.f142 k all_nil (fun k=>all_cons (cmp_isNaN_int.ok k) (all_nil)) (all_cons ⟨Tryz.func142,by kernel_rfl⟩ all_nil) all_nil (by kernel_rfl) (by kernel_rfl) (fun a=>by kernel_rfl)
noncomputable def iF.m (k:Nat):Sm:=iY [.gr,(.int .i64)] [.pl (.int .i64)] (fun a=>iF.f k a.1.f0 a.1.f1 a.2.1)
noncomputable def iF.C {γ:Type}:Ctx γ:=mkC (fun k=>mkE [(142,cmp_Compare_int.m k)] []) [(141,Tryz.f141)] [(141,mkA [] [] [] [])] [] []
theorem iF.fE {γ:Type}:(iF.C (γ:=γ)).Ok:=⟨(all_cons (fun k=>by kernel_rfl) all_nil),(all_cons (by kernel_rfl) all_nil),all_nil⟩
theorem iF.ok (k:Nat):iV Tryz.prog 141 (iF.m k).s:=okW iF.fE 0 Tryz.f141 k all_nil (fun k=>all_cons (cmp_Compare_int.ok k) (all_nil)) (all_cons ⟨Tryz.func141,by kernel_rfl⟩ all_nil) all_nil (by kernel_rfl) (by kernel_rfl) (fun a=>by kernel_rfl)
noncomputable def eH.m (k:Nat):Sm:=iY [.fm,(.int .i64)] [.pl (.int .i64),.pl .bool] (fun a=>eH.f k a.1.f0 a.1.f1 a.1.f2 a.1.f3 a.2.1)
noncomputable def eH.l0.p:PS:=⟨[.one (.s .gr),.one (.i .i64),.one (.fn 141 [])]++nOs 5++[.one (.i .i64),.one (.i .i64),.one (.i .i64)]++nOs 38,[.box 25 [.i .i64,.i .i64,.s (.sl 42 .sp),.s .gr]]⟩
noncomputable def eH.l0.c {γ:Type} (YK:HdK γ) (K:dS→St→Option γ) (c1:List P.S44) (c2:Int) (c3:Int) (c6:Int) (c7:Int) (c8:List (List P.S42)) (c9:List P.S44):=(fun y1=>K (.exit 0) ((⟨[.one (.s .gr),.one (.i .i64),.one (.fn 141 [])]++nOs 5++[.one (.i .i64),.one (.i .i64)]++nOs 39,[.box 25 [.i .i64,.i .i64,.s (.sl 42 .sp),.s .gr]]⟩:PS).mk' [.l .gr c1,.i c2,.i c3,.i y1,.i c6,.i c7,.l (.sl 42 .sp) c8,.l .gr c9]))
noncomputable def eH.l0.g {γ:Type} (YK:HdK γ) (k:Nat) (K:dS→St→Option γ):List Lf→Option γ
  | [.l .gr c1,.i c2,.i c3,.i v4,.i v5,.i c6,.i c7,.l (.sl 42 .sp) c8,.l .gr c9]=>eH.l0 (eH.l0.c YK K c1 c2 c3 c6 c7 c8 c9) c1 c2 k v4 v5
  | _=>none
noncomputable def eH.C {γ:Type}:Ctx γ:=mkC (fun k=>mkE [(141,iF.m k)] []) [(104,Tryz.f104),(140,Tryz.f140)] [(104,mkA [] [] [] []),(140,mkA [] [(0,[0,1,2,8,9,10])] [(0,[0,1,2,8,9])] [])] [⟨0,140,0,gY [(eH.l0.p,eH.l0.g)]⟩] []
theorem eH.l0.eq {γ:Type} (YK:HdK γ) (rl:Option Nat) (K:dS→St→Option γ) (c1:List P.S44) (c2:Int) (c3:Int) (c6:Int) (c7:Int) (c8:List (List P.S42)) (c9:List P.S44):∀ k:Nat,(fun (v4:Int) (v5:Int)=>eH.C.lK 0 140 0 Tryz.f140 YK rl 1 k (eH.l0.p.mk' [.l .gr c1,.i c2,.i c3,.i v4,.i v5,.i c6,.i c7,.l (.sl 42 .sp) c8,.l .gr c9]) K)=(fun (v4:Int) (v5:Int)=>eH.l0.g YK k K [.l .gr c1,.i c2,.i c3,.i v4,.i v5,.i c6,.i c7,.l (.sl 42 .sp) c8,.l .gr c9]):=eZ (fun R k v4 v5=>eH.l0T (eH.l0.c YK K c1 c2 c3 c6 c7 c8 c9) c1 c2 R k v4 v5) (by kernel_rfl) (fun k=>by kernel_rfl) (fun k=>by kernel_rfl)
theorem eH.fE {γ:Type}:(eH.C (γ:=γ)).Ok:=⟨(all_cons (fun k=>by kernel_rfl) (all_cons (fun k=>by kernel_rfl) all_nil)),(all_cons (by kernel_rfl) (all_cons (by kernel_rfl) all_nil)),all_nil⟩
theorem eH.e0 {γ:Type}:gy (eH.C (γ:=γ)) ⟨0,140,0,gY [(eH.l0.p,eH.l0.g)]⟩:=eH.fE.jW Tryz.f140 [] (by kernel_rfl) (by kernel_rfl) (by kernel_rfl) (all_cons iE all_nil) (all_cons (fun YK rl k ls K v hv=>(show eH.l0.g YK k K ls=some v→_ from fun hv=>by
  unfold eH.l0.g at hv;split at hv
  · exact (congrFun (congrFun (eH.l0.eq YK rl K _ _ _ _ _ _ _ k) _) _).trans hv
  · cases hv) hv) all_nil)
theorem eH.ok (k:Nat):iV Tryz.prog 104 (eH.m k).s:=okW eH.fE 1 Tryz.f104 k all_nil (fun k=>all_cons (iF.ok k) (all_nil)) (all_cons ⟨Tryz.func104,by kernel_rfl⟩ (all_cons ⟨Tryz.func140,by kernel_rfl⟩ all_nil)) (all_cons eH.e0 all_nil) (by kernel_rfl) (by kernel_rfl) (fun a=>by kernel_rfl)
noncomputable def bits_Mul64.m (k:Nat):Sm:=iY [(.int .u64),(.int .u64)] [.pl (.int .u64),.pl (.int .u64)] (fun a=>bits_Mul64.f k a.1 a.2.1)
noncomputable def bits_Mul64.C {γ:Type}:Ctx γ:=mkC (fun k=>mkE [] []) [(143,Tryz.f143)] [(143,mkA [] [] [] [])] [] []
theorem bits_Mul64.fE {γ:Type}:(bits_Mul64.C (γ:=γ)).Ok:=⟨(all_cons (fun k=>by kernel_rfl) all_nil),(all_cons (by kernel_rfl) all_nil),all_nil⟩
theorem bits_Mul64.ok (k:Nat):iV Tryz.prog 143 (bits_Mul64.m k).s:=okW bits_Mul64.fE 0 Tryz.f143 k all_nil (fun k=>all_nil) (all_cons ⟨Tryz.func143,by kernel_rfl⟩ all_nil) all_nil (by kernel_rfl) (by kernel_rfl) (fun a=>by kernel_rfl)
noncomputable def gD.m (k:Nat):Sm:=iY [(.int .i64)] [.pl (.int .u64)] (fun a=>gD.f k a.1)
noncomputable def gD.C {γ:Type}:Ctx γ:=mkC (fun k=>mkE [] []) [(144,Tryz.f144)] [(144,mkA [] [] [] [])] [] []
theorem gD.fE {γ:Type}:(gD.C (γ:=γ)).Ok:=⟨(all_cons (fun k=>by kernel_rfl) all_nil),(all_cons (by kernel_rfl) all_nil),all_nil⟩
theorem gD.ok (k:Nat):iV Tryz.prog 144 (gD.m k).s:=okW gD.fE 0 Tryz.f144 k all_nil (fun k=>all_nil) (all_cons ⟨Tryz.func144,by kernel_rfl⟩ all_nil) all_nil (by kernel_rfl) (by kernel_rfl) (fun a=>by kernel_rfl)
noncomputable def fZ.m (k:Nat):Sm:=iY [(.int .u64),.bool] [.pl (.int .i64),.pl (.int .i64)] (fun a=>fZ.f k a.1 a.2.1)
noncomputable def fZ.C {γ:Type}:Ctx γ:=mkC (fun k=>mkE [] []) [(145,Tryz.f145)] [(145,mkA [] [] [] [])] [] []
theorem fZ.fE {γ:Type}:(fZ.C (γ:=γ)).Ok:=⟨(all_cons (fun k=>by kernel_rfl) all_nil),(all_cons (by kernel_rfl) all_nil),all_nil⟩
theorem fZ.ok (k:Nat):iV Tryz.prog 145 (fZ.m k).s:=okW fZ.fE 0 Tryz.f145 k all_nil (fun k=>all_nil) (all_cons ⟨Tryz.func145,by kernel_rfl⟩ all_nil) all_nil (by kernel_rfl) (by kernel_rfl) (fun a=>by kernel_rfl)
noncomputable def gU.m (k:Nat):Sm:=iY [(.int .i64),(.int .i64)] [.pl (.int .i64),.pl (.int .i64)] (fun a=>gU.f k a.1 a.2.1)
noncomputable def gU.C {γ:Type}:Ctx γ:=mkC (fun k=>mkE [(143,bits_Mul64.m k),(144,gD.m k),(145,fZ.m k)] []) [(105,Tryz.f105)] [(105,mkA [] [] [] [])] [] []
theorem gU.fE {γ:Type}:(gU.C (γ:=γ)).Ok:=⟨(all_cons (fun k=>by kernel_rfl) all_nil),(all_cons (by kernel_rfl) all_nil),all_nil⟩
theorem gU.ok (k:Nat):iV Tryz.prog 105 (gU.m k).s:=okW gU.fE 0 Tryz.f105 k all_nil (fun k=>all_cons (bits_Mul64.ok k) (all_cons (gD.ok k) (all_cons (fZ.ok k) (all_nil)))) (all_cons ⟨Tryz.func105,by kernel_rfl⟩ all_nil) all_nil (by kernel_rfl) (by kernel_rfl) (fun a=>by kernel_rfl)
noncomputable def iH.m (k:Nat):Sm:=iY [.fm,(.int .i64)] [.pl (.sl 42 .sp),.pl (.int .i64),.pl (.int .i64)] (fun a=>iH.f k a.1.f0 a.1.f1 a.1.f2 a.1.f3 a.2.1)
noncomputable def iH.C {γ:Type}:Ctx γ:=mkC (fun k=>mkE [(70,fM.m k),(104,eH.m k),(105,gU.m k)] []) [(54,Tryz.f54)] [(54,mkA [] [] [] [])] [] []
theorem iH.fE {γ:Type}:(iH.C (γ:=γ)).Ok:=⟨(all_cons (fun k=>by kernel_rfl) all_nil),(all_cons (by kernel_rfl) all_nil),all_nil⟩
theorem iH.ok (k:Nat):iV Tryz.prog 54 (iH.m k).s:=okW iH.fE 0 Tryz.f54 k all_nil (fun k=>all_cons (fM.ok k) (all_cons (eH.ok k) (all_cons (gU.ok k) (all_nil)))) (all_cons ⟨Tryz.func54,by kernel_rfl⟩ all_nil) all_nil (by kernel_rfl) (by kernel_rfl) (fun a=>by kernel_rfl)
noncomputable def iT.m (k:Nat):Sm:=iY [(.int .i64),(.int .i64)] [.pl (.int .i64),.pl (.int .i64)] (fun a=>iT.f k a.1 a.2.1)
noncomputable def iT.C {γ:Type}:Ctx γ:=mkC (fun k=>mkE [] []) [(106,Tryz.f106)] [(106,mkA [] [] [] [])] [] []
theorem iT.fE {γ:Type}:(iT.C (γ:=γ)).Ok:=⟨(all_cons (fun k=>by kernel_rfl) all_nil),(all_cons (by kernel_rfl) all_nil),all_nil⟩
theorem iT.ok (k:Nat):iV Tryz.prog 106 (iT.m k).s:=okW iT.fE 0 Tryz.f106 k all_nil (fun k=>all_nil) (all_cons ⟨Tryz.func106,by kernel_rfl⟩ all_nil) all_nil (by kernel_rfl) (by kernel_rfl) (fun a=>by kernel_rfl)
noncomputable def d9.m (k:Nat):Sm:=iY [(.sl 42 .sp),(.int .i64)] [.own 42 .sp,.pl (.int .i64)] (fun a=>d9.f k a.1 a.2.1)
noncomputable def d9.l0.p:PS:=⟨[nO,.one (.i .i64)]++nOs 4++[.one (.o 42 .sp)]++nOs 6++[.one (.s .sp),.one (.i .i64),.one (.i .i64)]++nOs 41,[]⟩
noncomputable def d9.l0.c {γ:Type} (YK:HdK γ) (K:dS→St→Option γ)  := ((fun y1=>K .ret ((⟨nOs 4++[.one (.lo 42 .sp),.one (.li .i64 20),.one (.o 42 .sp)]++nOs 50,[]⟩:PS).mk' [.l .sp y1])),(fun y1=>K (.exit 0) ((⟨nOs 6++[.one (.o 42 .sp)]++nOs 50,[]⟩:PS).mk' [.l .sp y1])))
noncomputable def d9.l0.g {γ:Type} (YK:HdK γ) (k:Nat) (K:dS→St→Option γ):List Lf→Option γ
  | [.i c1,.l .sp v2,.l .sp c3,.i c4,.i v5]=>let q:=d9.l0.c YK K;d9.l0 q.1 q.2 c1 c3 c4 k v2 v5
  | _=>none
noncomputable def d9.C {γ:Type}:Ctx γ:=mkC (fun k=>mkE [(106,iT.m k),(107,gu.m k)] []) [(55,Tryz.f55)] [(55,mkA [49,56] [(0,[1,6,13,14,15])] [(0,[4,5,6])] [])] [⟨0,55,0,gY [(d9.l0.p,d9.l0.g)]⟩] []
theorem d9.l0.eq {γ:Type} (YK:HdK γ) (rl:Option Nat) (K:dS→St→Option γ) (c1:Int) (c3:List P.S42) (c4:Int):∀ k:Nat,(fun (v2:List P.S42) (v5:Int)=>d9.C.lK 0 55 0 Tryz.f55 YK rl 0 k (d9.l0.p.mk' [.i c1,.l .sp v2,.l .sp c3,.i c4,.i v5]) K)=(fun (v2:List P.S42) (v5:Int)=>d9.l0.g YK k K [.i c1,.l .sp v2,.l .sp c3,.i c4,.i v5]):=eZ (fun R k v2 v5=>d9.l0T (d9.l0.c YK K).1 (d9.l0.c YK K).2 c1 c3 c4 R k v2 v5) (by kernel_rfl) (fun k=>by kernel_rfl) (fun k=>by kernel_rfl)
theorem d9.fE {γ:Type}:(d9.C (γ:=γ)).Ok:=⟨(all_cons (fun k=>by kernel_rfl) all_nil),(all_cons (by kernel_rfl) all_nil),all_nil⟩
theorem d9.e0 {γ:Type}:gy (d9.C (γ:=γ)) ⟨0,55,0,gY [(d9.l0.p,d9.l0.g)]⟩:=d9.fE.jW Tryz.f55 [] (by kernel_rfl) (by kernel_rfl) (by kernel_rfl) (all_cons iE all_nil) (all_cons (fun YK rl k ls K v hv=>(show d9.l0.g YK k K ls=some v→_ from fun hv=>by
  unfold d9.l0.g at hv;split at hv
  · exact (congrFun (congrFun (d9.l0.eq YK rl K _ _ _ k) _) _).trans hv
  · cases hv) hv) all_nil)
theorem d9.ok (k:Nat):iV Tryz.prog 55 (d9.m k).s:=okW d9.fE 0 Tryz.f55 k all_nil (fun k=>all_cons (iT.ok k) (all_cons (gu.ok k) (all_nil))) (all_cons ⟨Tryz.func55,by kernel_rfl⟩ all_nil) (all_cons d9.e0 all_nil) (by kernel_rfl) (by kernel_rfl) (fun a=>by kernel_rfl)
noncomputable def fK.m (k:Nat):Sm:=iY [.fm,(.int .i64)] [.own 42 .sp,.pl (.int .i64)] (fun a=>fK.f k a.1.f0 a.1.f1 a.1.f2 a.1.f3 a.2.1)
noncomputable def fK.C {γ:Type}:Ctx γ:=mkC (fun k=>mkE [(53,fJ.m k),(54,iH.m k),(55,d9.m k)] []) [(19,Tryz.f19)] [(19,mkA [27] [] [] [])] [] []
theorem fK.fE {γ:Type}:(fK.C (γ:=γ)).Ok:=⟨(all_cons (fun k=>by kernel_rfl) all_nil),(all_cons (by kernel_rfl) all_nil),all_nil⟩
theorem fK.ok (k:Nat):iV Tryz.prog 19 (fK.m k).s:=okW fK.fE 0 Tryz.f19 k all_nil (fun k=>all_cons (fJ.ok k) (all_cons (iH.ok k) (all_cons (d9.ok k) (all_nil)))) (all_cons ⟨Tryz.func19,by kernel_rfl⟩ all_nil) all_nil (by kernel_rfl) (by kernel_rfl) (fun a=>by kernel_rfl)
noncomputable def iq.m (k:Nat):Sm:=iY [(.sl 42 .sp)] [.pl .bool] (fun a=>iq.f k a.1)
noncomputable def iq.C {γ:Type}:Ctx γ:=mkC (fun k=>mkE [] []) [(182,Tryz.f182)] [(182,mkA [] [] [] [])] [] []
theorem iq.fE {γ:Type}:(iq.C (γ:=γ)).Ok:=⟨(all_cons (fun k=>by kernel_rfl) all_nil),(all_cons (by kernel_rfl) all_nil),all_nil⟩
theorem iq.ok (k:Nat):iV Tryz.prog 182 (iq.m k).s:=okW iq.fE 0 Tryz.f182 k all_nil (fun k=>all_nil) (all_cons ⟨Tryz.func182,by kernel_rfl⟩ all_nil) all_nil (by kernel_rfl) (by kernel_rfl) (fun a=>by kernel_rfl)
noncomputable def eG.m (k:Nat):Sm:=iY [.fm] [.pl .bool] (fun a=>eG.f k a.1.f0 a.1.f1 a.1.f2 a.1.f3)
noncomputable def eG.l0.p:PS:=⟨[.one (.s (.sl 42 .sp)),.one (.fn 182 [])]++nOs 5++[.one (.i .i64),.one (.i .i64)]++nOs 10,[.box 25 [.i .i64,.i .i64,.s (.sl 42 .sp),.s .gr]]⟩
noncomputable def eG.l0.c {γ:Type} (YK:HdK γ) (K:dS→St→Option γ) (c4:Int) (c5:Int) (c6:List (List P.S42)) (c7:List P.S44):=((fun y1=>K .ret ((⟨nOs 4++[.one (.i .i64)]++nOs 14,[.box 25 [.i .i64,.i .i64,.s (.sl 42 .sp),.s .gr]]⟩:PS).mk' [.i y1,.i c4,.i c5,.l (.sl 42 .sp) c6,.l .gr c7])),(K (.exit 0) ((⟨nOs 19,[.box 25 [.i .i64,.i .i64,.s (.sl 42 .sp),.s .gr]]⟩:PS).mk' [.i c4,.i c5,.l (.sl 42 .sp) c6,.l .gr c7])))
noncomputable def eG.l0.g {γ:Type} (YK:HdK γ) (k:Nat) (K:dS→St→Option γ):List Lf→Option γ
  | [.l (.sl 42 .sp) c1,.i c2,.i v3,.i c4,.i c5,.l (.sl 42 .sp) c6,.l .gr c7]=>let q:=eG.l0.c YK K c4 c5 c6 c7;eG.l0 q.1 q.2 c1 c2 k v3
  | _=>none
noncomputable def eG.C {γ:Type}:Ctx γ:=mkC (fun k=>mkE [(182,iq.m k)] []) [(179,Tryz.f179),(112,Tryz.f112),(150,Tryz.f150)] [(179,mkA [] [] [] []),(112,mkA [] [] [] []),(150,mkA [] [(0,[0,1,7,8])] [(0,[4])] [])] [⟨0,150,0,gY [(eG.l0.p,eG.l0.g)]⟩] []
theorem eG.l0.eq {γ:Type} (YK:HdK γ) (rl:Option Nat) (K:dS→St→Option γ) (c1:List (List P.S42)) (c2:Int) (c4:Int) (c5:Int) (c6:List (List P.S42)) (c7:List P.S44):∀ k:Nat,(fun (v3:Int)=>eG.C.lK 0 150 0 Tryz.f150 YK rl 1 k (eG.l0.p.mk' [.l (.sl 42 .sp) c1,.i c2,.i v3,.i c4,.i c5,.l (.sl 42 .sp) c6,.l .gr c7]) K)=(fun (v3:Int)=>eG.l0.g YK k K [.l (.sl 42 .sp) c1,.i c2,.i v3,.i c4,.i c5,.l (.sl 42 .sp) c6,.l .gr c7]):=eZ (fun R k v3=>eG.l0T (eG.l0.c YK K c4 c5 c6 c7).1 (eG.l0.c YK K c4 c5 c6 c7).2 c1 c2 R k v3) (by kernel_rfl) (fun k=>by kernel_rfl) (fun k=>by kernel_rfl)
theorem eG.fE {γ:Type}:(eG.C (γ:=γ)).Ok:=⟨(all_cons (fun k=>by kernel_rfl) (all_cons (fun k=>by kernel_rfl) (all_cons (fun k=>by kernel_rfl) all_nil))),(all_cons (by kernel_rfl) (all_cons (by kernel_rfl) (all_cons (by kernel_rfl) all_nil))),all_nil⟩
theorem eG.e0 {γ:Type}:gy (eG.C (γ:=γ)) ⟨0,150,0,gY [(eG.l0.p,eG.l0.g)]⟩:=eG.fE.jW Tryz.f150 [] (by kernel_rfl) (by kernel_rfl) (by kernel_rfl) (all_cons iE all_nil) (all_cons (fun YK rl k ls K v hv=>(show eG.l0.g YK k K ls=some v→_ from fun hv=>by
  unfold eG.l0.g at hv;split at hv
  · exact (congrFun (eG.l0.eq YK rl K _ _ _ _ _ _ k) _).trans hv
  · cases hv) hv) all_nil)
theorem eG.ok (k:Nat):iV Tryz.prog 179 (eG.m k).s:=okW eG.fE 2 Tryz.f179 k all_nil (fun k=>all_cons (iq.ok k) (all_nil)) (all_cons ⟨Tryz.func179,by kernel_rfl⟩ (all_cons ⟨Tryz.func112,by kernel_rfl⟩ (all_cons ⟨Tryz.func150,by kernel_rfl⟩ all_nil))) (all_cons eG.e0 all_nil) (by kernel_rfl) (by kernel_rfl) (fun a=>by kernel_rfl)
noncomputable def iW.m (k:Nat):Sm:=iY [.fm,(.int .i64)] [.pl .bool] (fun a=>iW.f k a.1.f0 a.1.f1 a.1.f2 a.1.f3 a.2.1)
noncomputable def iW.C {γ:Type}:Ctx γ:=mkC (fun k=>mkE [(54,iH.m k)] []) [(180,Tryz.f180)] [(180,mkA [] [] [] [])] [] []
theorem iW.fE {γ:Type}:(iW.C (γ:=γ)).Ok:=⟨(all_cons (fun k=>by kernel_rfl) all_nil),(all_cons (by kernel_rfl) all_nil),all_nil⟩
theorem iW.ok (k:Nat):iV Tryz.prog 180 (iW.m k).s:=okW iW.fE 0 Tryz.f180 k all_nil (fun k=>all_cons (iH.ok k) (all_nil)) (all_cons ⟨Tryz.func180,by kernel_rfl⟩ all_nil) all_nil (by kernel_rfl) (by kernel_rfl) (fun a=>by kernel_rfl)
end Go.Proofs.YtcomnjodjijcmaaGreat.R
