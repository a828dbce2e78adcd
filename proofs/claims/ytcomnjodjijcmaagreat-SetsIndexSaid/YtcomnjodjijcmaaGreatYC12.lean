/- Lemmas for laws of chapter 7: what the functions that they reach compute. No condition of its own. -/
import Derived.Test.YtcomnjodjijcmaaGreatYC9
import Derived.Test.YtcomnjodjijcmaaGreatYC10
import Derived.Test.YtcomnjodjijcmaaGreatYC11
namespace Go.Proofs.YtcomnjodjijcmaaGreat.R
open M Go.RowKit Go.Proofs.YtcomnjodjijcmaaGreatW.dB Go.Proofs.YtcomnjodjijcmaaGreatW.d9 Go.Proofs.YtcomnjodjijcmaaGreatW.eO
set_option linter.unusedVariables false
variable [Inhabited WT]
section
variable {γ:Type} (X0:Bool→Int→Int→(List (List P.S42))→(List P.S44)→Int→Int→(List (List P.S42))→(List P.S44)→Int→Int→(List (List P.S42))→(List P.S44)→Int→Int→(List (List P.S42))→(List P.S44)→(List P.S44)→(List P.S44)→Int→Int→(List (List P.S42))→(List P.S44)→Int→Int→(List (List P.S42))→(List P.S44)→Option γ) (X1:Int→Int→(List (List P.S42))→(List P.S44)→Int→Int→(List (List P.S42))→(List P.S44)→Int→Int→(List (List P.S42))→(List P.S44)→Int→Int→(List (List P.S42))→(List P.S44)→(List P.S44)→(List P.S44)→Int→Int→(List (List P.S42))→(List P.S44)→Int→Int→(List (List P.S42))→(List P.S44)→Option γ)
noncomputable def dF.l2 (k:Nat) (v1:Int) (v2:Int) (v3:List (List P.S42)) (v4:List P.S44) (v5:Int) (v6:Int) (v7:List (List P.S42)) (v8:List P.S44) (v9:Int) (v10:Int) (v11:List (List P.S42)) (v12:List P.S44) (v13:Int) (v14:Int) (v15:List (List P.S42)) (v16:List P.S44):Option γ:=((dD.f k 0 0 [] [(⟨1,[(⟨5,5⟩:P.S42)]⟩:P.S44)] 0 0 [] [(⟨2,[(⟨3,3⟩:P.S42)]⟩:P.S44)]).bind fun t12=>((dK.f k 0 0 [] [(⟨1,[(⟨5,5⟩:P.S42)]⟩:P.S44)] 0 0 [] [(⟨2,[(⟨3,3⟩:P.S42)]⟩:P.S44)]).bind fun aa=>(if (decide (t12.2=51))=true then (if (decide (aa.2=0))=true then ((dw.f k aa.1.f0 aa.1.f1 aa.1.f2 aa.1.f3 0 0 [] [(⟨1,[(⟨5,5⟩:P.S42)]⟩:P.S44)]).bind fun ab=>(if ab=true then ((eZ.f k).bind fun ac=>(X0 ac v1 v2 v3 v4 v5 v6 v7 v8 v9 v10 v11 v12 v13 v14 v15 v16 [(⟨1,[(⟨5,5⟩:P.S42)]⟩:P.S44)] [(⟨2,[(⟨3,3⟩:P.S42)]⟩:P.S44)] t12.1.f0 t12.1.f1 t12.1.f2 t12.1.f3 aa.1.f0 aa.1.f1 aa.1.f2 aa.1.f3)) else (X1 v1 v2 v3 v4 v5 v6 v7 v8 v9 v10 v11 v12 v13 v14 v15 v16 [(⟨1,[(⟨5,5⟩:P.S42)]⟩:P.S44)] [(⟨2,[(⟨3,3⟩:P.S42)]⟩:P.S44)] t12.1.f0 t12.1.f1 t12.1.f2 t12.1.f3 aa.1.f0 aa.1.f1 aa.1.f2 aa.1.f3))) else (X1 v1 v2 v3 v4 v5 v6 v7 v8 v9 v10 v11 v12 v13 v14 v15 v16 [(⟨1,[(⟨5,5⟩:P.S42)]⟩:P.S44)] [(⟨2,[(⟨3,3⟩:P.S42)]⟩:P.S44)] t12.1.f0 t12.1.f1 t12.1.f2 t12.1.f3 aa.1.f0 aa.1.f1 aa.1.f2 aa.1.f3)) else (X1 v1 v2 v3 v4 v5 v6 v7 v8 v9 v10 v11 v12 v13 v14 v15 v16 [(⟨1,[(⟨5,5⟩:P.S42)]⟩:P.S44)] [(⟨2,[(⟨3,3⟩:P.S42)]⟩:P.S44)] t12.1.f0 t12.1.f1 t12.1.f2 t12.1.f3 aa.1.f0 aa.1.f1 aa.1.f2 aa.1.f3))))
end
section
variable {γ:Type} (X0:Int→Int→(List (List P.S42))→(List P.S44)→Int→Int→(List (List P.S42))→(List P.S44)→Int→Int→(List (List P.S42))→(List P.S44)→Int→Int→(List (List P.S42))→(List P.S44)→Option γ) (X1:Bool→Int→Int→(List (List P.S42))→(List P.S44)→Int→Int→(List (List P.S42))→(List P.S44)→Int→Int→(List (List P.S42))→(List P.S44)→Int→Int→(List (List P.S42))→(List P.S44)→(List P.S44)→(List P.S44)→Int→Int→(List (List P.S42))→(List P.S44)→Int→Int→(List (List P.S42))→(List P.S44)→Option γ) (X2:Int→Int→(List (List P.S42))→(List P.S44)→Int→Int→(List (List P.S42))→(List P.S44)→Int→Int→(List (List P.S42))→(List P.S44)→Int→Int→(List (List P.S42))→(List P.S44)→(List P.S44)→(List P.S44)→Int→Int→(List (List P.S42))→(List P.S44)→Int→Int→(List (List P.S42))→(List P.S44)→Option γ)
noncomputable def dF.l1 (k:Nat) (v1:Bool) (v2:Int) (v3:Int) (v4:List (List P.S42)) (v5:List P.S44) (v6:Int) (v7:Int) (v8:List (List P.S42)) (v9:List P.S44):Option γ:=((dD.f k v2 v3 v4 v5 v6 v7 v8 v9).bind fun t9=>((dO.f k v2 v3 v4 v5 v6 v7 v8 v9).bind fun t10=>(if (!v1)=true then (if (!(decide (t9.2=51)))=true then (X0 v2 v3 v4 v5 v6 v7 v8 v9 t9.1.f0 t9.1.f1 t9.1.f2 t9.1.f3 t10.1.f0 t10.1.f1 t10.1.f2 t10.1.f3) else (if (!(decide (t10.2=51)))=true then (X0 v2 v3 v4 v5 v6 v7 v8 v9 t9.1.f0 t9.1.f1 t9.1.f2 t9.1.f3 t10.1.f0 t10.1.f1 t10.1.f2 t10.1.f3) else ((dw.f k t9.1.f0 t9.1.f1 t9.1.f2 t9.1.f3 0 0 [] []).bind fun t11=>(if (!t11)=true then (X0 v2 v3 v4 v5 v6 v7 v8 v9 t9.1.f0 t9.1.f1 t9.1.f2 t9.1.f3 t10.1.f0 t10.1.f1 t10.1.f2 t10.1.f3) else (dF.l2 X1 X2 k v2 v3 v4 v5 v6 v7 v8 v9 t9.1.f0 t9.1.f1 t9.1.f2 t9.1.f3 t10.1.f0 t10.1.f1 t10.1.f2 t10.1.f3))))) else (dF.l2 X1 X2 k v2 v3 v4 v5 v6 v7 v8 v9 t9.1.f0 t9.1.f1 t9.1.f2 t9.1.f3 t10.1.f0 t10.1.f1 t10.1.f2 t10.1.f3))))
end
section
variable {γ:Type} (X0:Int→Int→(List (List P.S42))→(List P.S44)→Int→Int→(List (List P.S42))→(List P.S44)→Option γ) (X1:Int→Int→(List (List P.S42))→(List P.S44)→Int→Int→(List (List P.S42))→(List P.S44)→Int→Int→(List (List P.S42))→(List P.S44)→Int→Int→(List (List P.S42))→(List P.S44)→Option γ) (X2:Bool→Int→Int→(List (List P.S42))→(List P.S44)→Int→Int→(List (List P.S42))→(List P.S44)→Int→Int→(List (List P.S42))→(List P.S44)→Int→Int→(List (List P.S42))→(List P.S44)→(List P.S44)→(List P.S44)→Int→Int→(List (List P.S42))→(List P.S44)→Int→Int→(List (List P.S42))→(List P.S44)→Option γ) (X3:Int→Int→(List (List P.S42))→(List P.S44)→Int→Int→(List (List P.S42))→(List P.S44)→Int→Int→(List (List P.S42))→(List P.S44)→Int→Int→(List (List P.S42))→(List P.S44)→(List P.S44)→(List P.S44)→Int→Int→(List (List P.S42))→(List P.S44)→Int→Int→(List (List P.S42))→(List P.S44)→Option γ)
noncomputable def dF.l0 (k:Nat) (v1:Int) (v2:Int) (v3:Int) (v4:List (List P.S42)) (v5:List P.S44) (v6:Int) (v7:Int) (v8:List (List P.S42)) (v9:List P.S44):Option γ:=((fM.f k v2 v3 v4 v5 (Int.tmod (wq v1) 300)).bind fun t5=>((fM.f k v6 v7 v8 v9 (Int.tmod (wq v1) 300)).bind fun t6=>((ng.f k v2 v3 v4 v5 v6 v7 v8 v9).bind fun t7=>(if (decide (t5.2=0))=true then (if (decide (t6.2=0))=true then (if (decide ((t5.1.length:Int)>0))=true then (if (decide ((t6.1.length:Int)>0))=true then ((fu.f k t5.1 t6.1).bind fun t8=>(if (!t8)=true then (if t7.1=true then (X0 v2 v3 v4 v5 v6 v7 v8 v9) else (if (!(decide (t7.2=0)))=true then (if (!(decide (t7.2=51)))=true then (X0 v2 v3 v4 v5 v6 v7 v8 v9) else (dF.l1 X1 X2 X3 k t7.1 v2 v3 v4 v5 v6 v7 v8 v9)) else (dF.l1 X1 X2 X3 k t7.1 v2 v3 v4 v5 v6 v7 v8 v9))) else (dF.l1 X1 X2 X3 k t7.1 v2 v3 v4 v5 v6 v7 v8 v9))) else (dF.l1 X1 X2 X3 k t7.1 v2 v3 v4 v5 v6 v7 v8 v9)) else (dF.l1 X1 X2 X3 k t7.1 v2 v3 v4 v5 v6 v7 v8 v9)) else (dF.l1 X1 X2 X3 k t7.1 v2 v3 v4 v5 v6 v7 v8 v9)) else (dF.l1 X1 X2 X3 k t7.1 v2 v3 v4 v5 v6 v7 v8 v9)))))
end
noncomputable def iA.f (k:Nat) (a0:Int) (a1:Int):Option (Int):=(if (decide (a1<1))=true then (some 0) else (if a1=0 then none else (if a1=0 then none else (some (Int.tmod (wq ((Int.tmod a0 a1)+a1)) a1)))))
section
variable {γ:Type} (X0:(List (List P.S42))→Option γ) (c1:List (List P.S42)) (c2:Int)
noncomputable def cO.l0T (R:Int→(List (List P.S42))→Option γ) (k:Nat) (v3:Int) (v14:List (List P.S42)):Option γ:=(if (decide (v3<c2))=true then (if 0≤v3 then (if v3<(c1.length:Int) then ((gZ.f k (gL c1 v3)).bind fun t3=>(if v14.length+1≤5864062014805 then (R (wq (v3+1)) (v14++[t3])) else none)) else none) else none) else (X0 v14))
noncomputable def cO.l0:Nat→Int→(List (List P.S42))→Option γ
  | 0=>(fun _ _=>none)
  | k+1=>(fun v3 v14=>(cO.l0T X0 c1 c2 (cO.l0 k) k v3 v14))
end
section
variable {γ:Type} (X0:(List P.S44)→Option γ) (c1:List P.S44) (c2:Int)
noncomputable def cO.l1T (R:Int→(List P.S44)→Option γ) (k:Nat) (v3:Int) (v15:List P.S44):Option γ:=(if (decide (v3<c2))=true then (if 0≤v3 then (if v3<(c1.length:Int) then ((gZ.f k (gG c1 v3).f1).bind fun t7=>(if v15.length+1≤4398046511104 then (R (wq (v3+1)) (v15++[(⟨(gG c1 v3).f0,t7⟩:P.S44)])) else none)) else none) else none) else (X0 v15))
noncomputable def cO.l1:Nat→Int→(List P.S44)→Option γ
  | 0=>(fun _ _=>none)
  | k+1=>(fun v3 v15=>(cO.l1T X0 c1 c2 (cO.l1 k) k v3 v15))
end
section
variable {γ:Type} (X0:(List (List P.S42))→Option γ) (c1:Int) (c3:Int) (c11:Nat)
noncomputable def cO.l2T (R:Int→(List (List P.S42))→Option γ) (k:Nat) (v4:Int) (v13:List (List P.S42)):Option γ:=(if (decide (v4<c3))=true then (if (Int.tmod v4 8)<0 then none else (if (decide ((IntKind.wrap .u8 (BitVec.ofInt 8 (Int.fdiv c1 (2 ^ (min (Int.toNat (Int.tmod v4 8)) 8))) &&& BitVec.ofInt 8 1).toNat)=0))=true then (if 0≤v4 then (if v4<(c11:Int) then (R (wq (v4+1)) (v13.set (Int.toNat v4) [])) else none) else none) else (R (wq (v4+1)) v13))) else (X0 v13))
noncomputable def cO.l2:Nat→Int→(List (List P.S42))→Option γ
  | 0=>(fun _ _=>none)
  | k+1=>(fun v4 v13=>(cO.l2T X0 c1 c3 c11 (cO.l2 k) k v4 v13))
end
section
variable {γ:Type} (X0:(List P.S44)→Option γ) (c1:Int) (c2:Int) (c3:Nat) (c4:Int) (c11:Int) (c13:Nat)
noncomputable def cO.l3T (R:Int→(List P.S44)→Option γ) (k:Nat) (v5:Int) (v15:List P.S44):Option γ:=(if (decide (v5<c4))=true then (if 0≤v5 then (if v5<(c3:Int) then (if (decide (c11>0))=true then ((iA.f k (gG v15 v5).f0 c11).bind fun t12=>(if (Int.tmod t12 8)<0 then none else (if (decide ((IntKind.wrap .u8 (BitVec.ofInt 8 (Int.fdiv c1 (2 ^ (min (Int.toNat (Int.tmod t12 8)) 8))) &&& BitVec.ofInt 8 1).toNat)=0))=true then (if 0≤v5 then (if v5<(c13:Int) then (R (wq (v5+1)) (v15.set (Int.toNat v5) (⟨(gG v15 v5).f0,[]⟩:P.S44))) else none) else none) else (if (decide ((gG v15 v5).f0=(wq c2)))=true then (if 0≤v5 then (if v5<(c13:Int) then (R (wq (v5+1)) (v15.set (Int.toNat v5) (⟨(gG v15 v5).f0,[]⟩:P.S44))) else none) else none) else (R (wq (v5+1)) v15))))) else (if (decide ((IntKind.wrap .u8 (BitVec.ofInt 8 (Int.fdiv c1 1) &&& BitVec.ofInt 8 1).toNat)=0))=true then (if 0≤v5 then (if v5<(c13:Int) then (R (wq (v5+1)) (v15.set (Int.toNat v5) (⟨(gG v15 v5).f0,[]⟩:P.S44))) else none) else none) else (if (decide ((gG v15 v5).f0=(wq c2)))=true then (if 0≤v5 then (if v5<(c13:Int) then (R (wq (v5+1)) (v15.set (Int.toNat v5) (⟨(gG v15 v5).f0,[]⟩:P.S44))) else none) else none) else (R (wq (v5+1)) v15)))) else none) else none) else (X0 v15))
noncomputable def cO.l3:Nat→Int→(List P.S44)→Option γ
  | 0=>(fun _ _=>none)
  | k+1=>(fun v5 v15=>(cO.l3T X0 c1 c2 c3 c4 c11 c13 (cO.l3 k) k v5 v15))
end
noncomputable def cO.f (k:Nat) (ab:Int) (aa:Int) (ac:List (List P.S42)) (af:List P.S44) (a1:Int) (a2:Int):Option (P.S25 × Bool):=(cO.l0 (fun y4=>(cO.l1 (fun y8=>(cO.l2 (fun y9=>(cO.l3 (fun y13=>((dJ.f k ab aa y9 y13).bind fun ah=>(some ((⟨ab,aa,y9,y13⟩:P.S25),(decide (ah=0)))))) a1 a2 y8.length (y8.length:Int) aa y8.length k 0 y8)) a1 (y4.length:Int) y4.length k 0 y4)) af (af.length:Int) k 0 [])) ac (ac.length:Int) k 0 [])
noncomputable def kW.f (k:Nat) (a0:List P.S42):Option (Bool):=(some (decide ((a0.length:Int)>0)))
section
variable {γ:Type} (X0:Int→Option γ) (X1:Option γ) (c1:List (List P.S42)) (c2:Int)
noncomputable def fZ.l0T (R:Int→Option γ) (k:Nat) (v3:Int):Option γ:=(if (decide (v3<c2))=true then (if 0≤v3 then (if v3<(c1.length:Int) then ((kW.f k (gL c1 v3)).bind fun t3=>(if t3=true then (X0 v3) else (R (wq (v3+1))))) else none) else none) else X1)
noncomputable def fZ.l0:Nat→Int→Option γ
  | 0=>(fun _=>none)
  | k+1=>(fun v3=>(fZ.l0T X0 X1 c1 c2 (fZ.l0 k) k v3))
end
noncomputable def fZ.f (k:Nat) (ab:Int) (ac:Int) (aa:List (List P.S42)) (af:List P.S44):Option (Bool):=(fZ.l0 (fun y4=>(some (decide (y4≥0)))) (some false) aa (aa.length:Int) k 0)
section
variable {γ:Type} (X0:Int→Bool→Option γ) (X1:Bool→Option γ) (c2:Int) (c4:Int) (c5:Int) (c6:List (List P.S42)) (c7:List P.S44) (c8:Int) (c9:Int) (c10:List (List P.S42)) (c11:List P.S44)
noncomputable def fI.l0T (R:Bool→Int→Option γ) (k:Nat) (v1:Bool) (v3:Int):Option γ:=(if (decide (v3<c2))=true then ((iw.f k c4 c5 c6 c7 v3).bind fun t8=>(if (!(decide (t8.2=0)))=true then (X0 t8.2 v1) else (if (decide ((t8.1.length:Int)=0))=true then (R v1 (wq (v3+1))) else ((iw.f k c8 c9 c10 c11 v3).bind fun t9=>(if (!(decide (t9.2=0)))=true then (X0 t9.2 v1) else (if v1=true then ((fu.f k t8.1 t9.1).bind fun t10=>(R t10 (wq (v3+1)))) else (R false (wq (v3+1))))))))) else (X1 v1))
noncomputable def fI.l0:Nat→Bool→Int→Option γ
  | 0=>(fun _ _=>none)
  | k+1=>(fun v1 v3=>(fI.l0T X0 X1 c2 c4 c5 c6 c7 c8 c9 c10 c11 (fI.l0 k) k v1 v3))
end
noncomputable def fI.f (k:Nat) (ac:Int) (af:Int) (ah:List (List P.S42)) (ai:List P.S44) (ab:Int) (aa:Int) (aj:List (List P.S42)) (ak:List P.S44):Option (Bool × Int):=((dY.f k ac af ah ai ab aa aj ak).bind fun t1=>(if (!(decide (t1.2.2=0)))=true then (some (false,t1.2.2)) else (if (decide (aa>0))=true then (if aa=0 then none else (fI.l0 (fun am aq=>(some (false,am))) (fun y13=>(some (y13,0))) t1.1 ac af ah ai ab aa aj ak k (decide ((wq (ab*(wq (Int.tdiv t1.1 aa))))=t1.2.1)) 0)) else (fI.l0 (fun ao au=>(some (false,ao))) (fun ap=>(some (ap,0))) t1.1 ac af ah ai ab aa aj ak k false 0))))
section
variable {γ:Type} (X0:(List Int)→Option γ) (c2:List P.S44) (c3:Int)
noncomputable def gD.l0T (R:(List Int)→Int→Option γ) (k:Nat) (v1:List Int) (v4:Int):Option γ:=(if (decide (v4<c3))=true then (if 0≤v4 then (if v4<(c2.length:Int) then (if v1.length+1≤17592186044416 then (R (v1++[(gG c2 v4).f0]) (wq (v4+1))) else none) else none) else none) else (X0 v1))
noncomputable def gD.l0:Nat→(List Int)→Int→Option γ
  | 0=>(fun _ _=>none)
  | k+1=>(fun v1 v4=>(gD.l0T X0 c2 c3 (gD.l0 k) k v1 v4))
end
noncomputable def gD.f (k:Nat) (ac:Int) (af:Int) (ah:List (List P.S42)) (ab:List P.S44) (ai:Int) (aj:Int) (ak:List (List P.S42)) (aa:List P.S44):Option (List Int):=((fG.f k ab).bind fun t1=>(if t1.length+aa.length≤4398046511104 then (gD.l0 (fun y2=>(if (decide (y2.length≤8796093022208))=true then (if (decide ((kP y2).length≤8796093022208))=true then (some (ji (kP y2))) else none) else none)) (t1++aa) ((t1++aa).length:Int) k [] 0) else none))
section
variable {γ:Type} (X0:Option γ) (X1:Option γ) (c1:List Int) (c2:Int) (c4:Int) (c5:Int) (c6:List (List P.S42)) (c7:List P.S44) (c8:Int) (c9:Int) (c10:List (List P.S42)) (c11:List P.S44)
noncomputable def gY.l0T (R:Int→Option γ) (k:Nat) (v3:Int):Option γ:=(if (decide (v3<c2))=true then (if 0≤v3 then (if v3<(c1.length:Int) then ((fM.f k c4 c5 c6 c7 (gI c1 v3)).bind fun t10=>((fM.f k c8 c9 c10 c11 (gI c1 v3)).bind fun t11=>(if (decide ((t10.1.length:Int)=0))=true then (R (wq (v3+1))) else ((fu.f k t10.1 t11.1).bind fun t12=>(if (!t12)=true then X0 else (R (wq (v3+1)))))))) else none) else none) else X1)
noncomputable def gY.l0:Nat→Int→Option γ
  | 0=>(fun _=>none)
  | k+1=>(fun v3=>(gY.l0T X0 X1 c1 c2 c4 c5 c6 c7 c8 c9 c10 c11 (gY.l0 k) k v3))
end
noncomputable def eF.f (k:Nat) (a0:List P.S42) (a1:Bool):Option (Int):=(if a1=true then (if 0<(a0.length:Int) then (some (wq ((gS a0 0).f1+1))) else none) else (if 0<(a0.length:Int) then (some (gS a0 0).f0) else none))
noncomputable def fE.f (k:Nat) (a0:List P.S42) (a1:Bool) (a2:Int):Option ((List P.S42) × Bool):=(if (decide ((a0.length:Int)>0))=true then (if a1=true then (if 0<(a0.length:Int) then (if (decide ((wq ((gS a0 0).f1+1))=a2))=true then (if 1≤(a0.length:Int) then (some ((a0.drop 1),false)) else none) else (if (decide ((a0.length:Int)>0))=true then (if (!a1)=true then (if 0<(a0.length:Int) then (if (decide ((gS a0 0).f0=a2))=true then (some (a0,true)) else (some (a0,a1))) else none) else (some (a0,a1))) else (some (a0,a1)))) else none) else (if (decide ((a0.length:Int)>0))=true then (if (!a1)=true then (if 0<(a0.length:Int) then (if (decide ((gS a0 0).f0=a2))=true then (some (a0,true)) else (some (a0,a1))) else none) else (some (a0,a1))) else (some (a0,a1)))) else (if (decide ((a0.length:Int)>0))=true then (if (!a1)=true then (if 0<(a0.length:Int) then (if (decide ((gS a0 0).f0=a2))=true then (some (a0,true)) else (some (a0,a1))) else none) else (some (a0,a1))) else (some (a0,a1))))
noncomputable def iE.f (k:Nat) (a0:Bool) (a1:Bool):Option (Bool):=(if a0=true then (some true) else (some a1))
section
variable {γ:Type} (Y0:Int→Bool→Bool→(List P.S42)→Bool→Int→(List P.S42)→(List P.S42)→((List P.S42)→Bool→Int→(List P.S42)→(List P.S42)→Option γ)→Option γ) (X0:(List P.S42)→Bool→Int→(List P.S42)→(List P.S42)→Option γ)
noncomputable def dX.l0T (R:Bool→Bool→(List P.S42)→Bool→Int→(List P.S42)→(List P.S42)→Option γ) (k:Nat) (v1:Bool) (v2:Bool) (v3:List P.S42) (v4:Bool) (v5:Int) (v6:List P.S42) (v7:List P.S42):Option γ:=(if (decide ((wq ((v6.length:Int)+(v7.length:Int)))>0))=true then (if (decide ((v6.length:Int)=0))=true then ((eF.f k v7 v2).bind fun t57=>((fE.f k v6 v1 t57).bind fun t58=>((fE.f k v7 v2 t57).bind fun t59=>(Y0 t57 t58.2 t59.2 v3 v4 v5 t58.1 t59.1 (fun z61 z62 z63 z64 z65=>(R t58.2 t59.2 z61 z62 z63 z64 z65)))))) else (if (decide ((v7.length:Int)=0))=true then ((eF.f k v6 v1).bind fun t66=>((fE.f k v6 v1 t66).bind fun t67=>((fE.f k v7 v2 t66).bind fun t68=>(Y0 t66 t67.2 t68.2 v3 v4 v5 t67.1 t68.1 (fun z70 z71 z72 z73 z74=>(R t67.2 t68.2 z70 z71 z72 z73 z74)))))) else ((eF.f k v6 v1).bind fun t75=>((eF.f k v7 v2).bind fun t76=>((fE.f k v6 v1 (mn t75 t76)).bind fun t77=>((fE.f k v7 v2 (mn t75 t76)).bind fun t78=>(Y0 (mn t75 t76) t77.2 t78.2 v3 v4 v5 t77.1 t78.1 (fun z80 aa z82 z83 z84=>(R t77.2 t78.2 z80 aa z82 z83 z84))))))))) else (X0 v3 v4 v5 v6 v7))
noncomputable def dX.l0:Nat→Bool→Bool→(List P.S42)→Bool→Int→(List P.S42)→(List P.S42)→Option γ
  | 0=>(fun _ _ _ _ _ _ _=>none)
  | k+1=>(fun v1 v2 v3 v4 v5 v6 v7=>(dX.l0T Y0 X0 (dX.l0 k) k v1 v2 v3 v4 v5 v6 v7))
end
noncomputable def dX.f (k:Nat) (a0:List P.S42) (a1:List P.S42):Option (List P.S42):=(dX.l0 (fun ai ak am ab aj ac af ah x0=>((iE.f k ak am).bind fun aa=>(if aa=true then (if (!aj)=true then (x0 ab aa ai af ah) else (if (!aa)=true then (if aj=true then (if ab.length+1≤8796093022208 then (x0 (ab++[(⟨ac,(wq (ai - 1))⟩:P.S42)]) aa ac af ah) else none) else (x0 ab aa ac af ah)) else (x0 ab aa ac af ah))) else (if (!aa)=true then (if aj=true then (if ab.length+1≤8796093022208 then (x0 (ab++[(⟨ac,(wq (ai - 1))⟩:P.S42)]) aa ac af ah) else none) else (x0 ab aa ac af ah)) else (x0 ab aa ac af ah))))) (fun ao ap aq au aw=>(some ao)) k false false [] false 0 a0 a1)
noncomputable def jd.f (k:Nat) (a0:Bool) (a1:Bool):Option (Bool):=(if a0=true then (some a1) else (some false))
section
variable {γ:Type} (Y0:Int→Bool→Bool→(List P.S42)→Bool→Int→(List P.S42)→(List P.S42)→((List P.S42)→Bool→Int→(List P.S42)→(List P.S42)→Option γ)→Option γ) (X0:(List P.S42)→Bool→Int→(List P.S42)→(List P.S42)→Option γ)
noncomputable def eU.l0T (R:Bool→Bool→(List P.S42)→Bool→Int→(List P.S42)→(List P.S42)→Option γ) (k:Nat) (v1:Bool) (v2:Bool) (v3:List P.S42) (v4:Bool) (v5:Int) (v6:List P.S42) (v7:List P.S42):Option γ:=(if (decide ((wq ((v6.length:Int)+(v7.length:Int)))>0))=true then (if (decide ((v6.length:Int)=0))=true then ((eF.f k v7 v2).bind fun t57=>((fE.f k v6 v1 t57).bind fun t58=>((fE.f k v7 v2 t57).bind fun t59=>(Y0 t57 t58.2 t59.2 v3 v4 v5 t58.1 t59.1 (fun z61 z62 z63 z64 z65=>(R t58.2 t59.2 z61 z62 z63 z64 z65)))))) else (if (decide ((v7.length:Int)=0))=true then ((eF.f k v6 v1).bind fun t66=>((fE.f k v6 v1 t66).bind fun t67=>((fE.f k v7 v2 t66).bind fun t68=>(Y0 t66 t67.2 t68.2 v3 v4 v5 t67.1 t68.1 (fun z70 z71 z72 z73 z74=>(R t67.2 t68.2 z70 z71 z72 z73 z74)))))) else ((eF.f k v6 v1).bind fun t75=>((eF.f k v7 v2).bind fun t76=>((fE.f k v6 v1 (mn t75 t76)).bind fun t77=>((fE.f k v7 v2 (mn t75 t76)).bind fun t78=>(Y0 (mn t75 t76) t77.2 t78.2 v3 v4 v5 t77.1 t78.1 (fun z80 aa z82 z83 z84=>(R t77.2 t78.2 z80 aa z82 z83 z84))))))))) else (X0 v3 v4 v5 v6 v7))
noncomputable def eU.l0:Nat→Bool→Bool→(List P.S42)→Bool→Int→(List P.S42)→(List P.S42)→Option γ
  | 0=>(fun _ _ _ _ _ _ _=>none)
  | k+1=>(fun v1 v2 v3 v4 v5 v6 v7=>(eU.l0T Y0 X0 (eU.l0 k) k v1 v2 v3 v4 v5 v6 v7))
end
noncomputable def eU.f (k:Nat) (a0:List P.S42) (a1:List P.S42):Option (List P.S42):=(eU.l0 (fun ai ak am ab aj ac af ah x0=>((jd.f k ak am).bind fun aa=>(if aa=true then (if (!aj)=true then (x0 ab aa ai af ah) else (if (!aa)=true then (if aj=true then (if ab.length+1≤8796093022208 then (x0 (ab++[(⟨ac,(wq (ai - 1))⟩:P.S42)]) aa ac af ah) else none) else (x0 ab aa ac af ah)) else (x0 ab aa ac af ah))) else (if (!aa)=true then (if aj=true then (if ab.length+1≤8796093022208 then (x0 (ab++[(⟨ac,(wq (ai - 1))⟩:P.S42)]) aa ac af ah) else none) else (x0 ab aa ac af ah)) else (x0 ab aa ac af ah))))) (fun ao ap aq au aw=>(some ao)) k false false [] false 0 a0 a1)
noncomputable def iP.f (k:Nat) (a0:Bool) (a1:Bool):Option (Bool):=(if a0=true then (some (!a1)) else (some false))
section
variable {γ:Type} (Y0:Int→Bool→Bool→(List P.S42)→Bool→Int→(List P.S42)→(List P.S42)→((List P.S42)→Bool→Int→(List P.S42)→(List P.S42)→Option γ)→Option γ) (X0:(List P.S42)→Bool→Int→(List P.S42)→(List P.S42)→Option γ)
noncomputable def dV.l0T (R:Bool→Bool→(List P.S42)→Bool→Int→(List P.S42)→(List P.S42)→Option γ) (k:Nat) (v1:Bool) (v2:Bool) (v3:List P.S42) (v4:Bool) (v5:Int) (v6:List P.S42) (v7:List P.S42):Option γ:=(if (decide ((wq ((v6.length:Int)+(v7.length:Int)))>0))=true then (if (decide ((v6.length:Int)=0))=true then ((eF.f k v7 v2).bind fun t57=>((fE.f k v6 v1 t57).bind fun t58=>((fE.f k v7 v2 t57).bind fun t59=>(Y0 t57 t58.2 t59.2 v3 v4 v5 t58.1 t59.1 (fun z61 z62 z63 z64 z65=>(R t58.2 t59.2 z61 z62 z63 z64 z65)))))) else (if (decide ((v7.length:Int)=0))=true then ((eF.f k v6 v1).bind fun t66=>((fE.f k v6 v1 t66).bind fun t67=>((fE.f k v7 v2 t66).bind fun t68=>(Y0 t66 t67.2 t68.2 v3 v4 v5 t67.1 t68.1 (fun z70 z71 z72 z73 z74=>(R t67.2 t68.2 z70 z71 z72 z73 z74)))))) else ((eF.f k v6 v1).bind fun t75=>((eF.f k v7 v2).bind fun t76=>((fE.f k v6 v1 (mn t75 t76)).bind fun t77=>((fE.f k v7 v2 (mn t75 t76)).bind fun t78=>(Y0 (mn t75 t76) t77.2 t78.2 v3 v4 v5 t77.1 t78.1 (fun z80 aa z82 z83 z84=>(R t77.2 t78.2 z80 aa z82 z83 z84))))))))) else (X0 v3 v4 v5 v6 v7))
noncomputable def dV.l0:Nat→Bool→Bool→(List P.S42)→Bool→Int→(List P.S42)→(List P.S42)→Option γ
  | 0=>(fun _ _ _ _ _ _ _=>none)
  | k+1=>(fun v1 v2 v3 v4 v5 v6 v7=>(dV.l0T Y0 X0 (dV.l0 k) k v1 v2 v3 v4 v5 v6 v7))
end
noncomputable def dV.f (k:Nat) (a0:List P.S42) (a1:List P.S42):Option (List P.S42):=(dV.l0 (fun ai ak am ab aj ac af ah x0=>((iP.f k ak am).bind fun aa=>(if aa=true then (if (!aj)=true then (x0 ab aa ai af ah) else (if (!aa)=true then (if aj=true then (if ab.length+1≤8796093022208 then (x0 (ab++[(⟨ac,(wq (ai - 1))⟩:P.S42)]) aa ac af ah) else none) else (x0 ab aa ac af ah)) else (x0 ab aa ac af ah))) else (if (!aa)=true then (if aj=true then (if ab.length+1≤8796093022208 then (x0 (ab++[(⟨ac,(wq (ai - 1))⟩:P.S42)]) aa ac af ah) else none) else (x0 ab aa ac af ah)) else (x0 ab aa ac af ah))))) (fun ao ap aq au aw=>(some ao)) k false false [] false 0 a0 a1)
noncomputable def iB.f (k:Nat) (aa:Int) (ab:List P.S42) (ac:Int) (af:List P.S42):Option (Bool):=(if (decide (aa=ac))=true then ((fu.f k ab af).bind fun t1=>(some t1)) else (some false))
section
variable {γ:Type} (X0:Option γ) (X1:Option γ) (c1:List (List P.S42)) (c2:List (List P.S42)) (c3:Int)
noncomputable def dL.l0T (R:Int→Option γ) (k:Nat) (v4:Int):Option γ:=(if (decide (v4<c3))=true then (if 0≤v4 then (if v4<(c2.length:Int) then (if 0≤v4 then (if v4<(c1.length:Int) then ((fu.f k (gL c2 v4) (gL c1 v4)).bind fun t3=>(if (!t3)=true then X0 else (R (wq (v4+1))))) else none) else none) else none) else none) else X1)
noncomputable def dL.l0:Nat→Int→Option γ
  | 0=>(fun _=>none)
  | k+1=>(fun v4=>(dL.l0T X0 X1 c1 c2 c3 (dL.l0 k) k v4))
end
section
variable {γ:Type} (X0:Option γ) (X1:Option γ) (c1:List P.S44) (c2:List P.S44) (c3:Int)
noncomputable def dL.l1T (R:Int→Option γ) (k:Nat) (v4:Int):Option γ:=(if (decide (v4<c3))=true then (if 0≤v4 then (if v4<(c2.length:Int) then (if 0≤v4 then (if v4<(c1.length:Int) then ((iB.f k (gG c2 v4).f0 (gG c2 v4).f1 (gG c1 v4).f0 (gG c1 v4).f1).bind fun t6=>(if (!t6)=true then X0 else (R (wq (v4+1))))) else none) else none) else none) else none) else X1)
noncomputable def dL.l1:Nat→Int→Option γ
  | 0=>(fun _=>none)
  | k+1=>(fun v4=>(dL.l1T X0 X1 c1 c2 c3 (dL.l1 k) k v4))
end
noncomputable def dL.f (k:Nat) (ah:Int) (ai:Int) (aa:List (List P.S42)) (ab:List P.S44) (aj:Int) (ak:Int) (ac:List (List P.S42)) (af:List P.S44):Option (Bool):=(if (decide (ah=aj))=true then (if (decide (ai=ak))=true then (if (!(decide ((aa.length:Int)=(ac.length:Int))))=true then (some false) else (dL.l0 (some false) (if (!(decide ((ab.length:Int)=(af.length:Int))))=true then (some false) else (dL.l1 (some false) (some true) af ab (ab.length:Int) k 0)) ac aa (aa.length:Int) k 0)) else (some false)) else (some false))
noncomputable def iZ.f (k:Nat) (aa:Int) (ab:Int) (ac:List (List P.S42)) (af:List P.S44):Option (Bool):=((dN.f k aa ab ac af).bind fun t1=>((dL.f k aa ab ac af t1.f0 t1.f1 t1.f2 t1.f3).bind fun t2=>(some t2)))
section
variable {γ:Type} (X0:(List Int)→Option γ) (c2:List P.S44) (c3:Int)
noncomputable def dx.l0T (R:(List Int)→Int→Option γ) (k:Nat) (v1:List Int) (v4:Int):Option γ:=(if (decide (v4<c3))=true then (if 0≤v4 then (if v4<(c2.length:Int) then (if v1.length+1≤17592186044416 then (R (v1++[(gG c2 v4).f0]) (wq (v4+1))) else none) else none) else none) else (X0 v1))
noncomputable def dx.l0:Nat→(List Int)→Int→Option γ
  | 0=>(fun _ _=>none)
  | k+1=>(fun v1 v4=>(dx.l0T X0 c2 c3 (dx.l0 k) k v1 v4))
end
section
variable {γ:Type} (X0:Option γ) (X1:Option γ) (c1:List Int) (c2:Int) (c8:Int) (c9:Int) (c10:List (List P.S42)) (c11:List P.S44) (c12:Int) (c13:Int) (c14:List (List P.S42)) (c15:List P.S44) (c16:Int) (c17:Int) (c18:List (List P.S42)) (c19:List P.S44) (c20:Int) (c21:Int) (c22:List (List P.S42)) (c23:List P.S44) (c24:Int) (c25:Int) (c26:List (List P.S42)) (c27:List P.S44)
noncomputable def dx.l1T (R:Int→Option γ) (k:Nat) (v3:Int):Option γ:=(if (decide (v3<c2))=true then (if 0≤v3 then (if v3<(c1.length:Int) then ((fM.f k c8 c9 c10 c11 (gI c1 v3)).bind fun t33=>((fM.f k c12 c13 c14 c15 (gI c1 v3)).bind fun t34=>((fM.f k c16 c17 c18 c19 (gI c1 v3)).bind fun t35=>((fM.f k c20 c21 c22 c23 (gI c1 v3)).bind fun t36=>((fM.f k c24 c25 c26 c27 (gI c1 v3)).bind fun t37=>(if (!(decide (t33.2=0)))=true then X0 else (if (!(decide (t34.2=0)))=true then X0 else (if (!(decide (t35.2=0)))=true then X0 else (if (!(decide (t36.2=0)))=true then X0 else (if (!(decide (t37.2=0)))=true then X0 else ((dX.f k t33.1 t34.1).bind fun t38=>((fu.f k t35.1 t38).bind fun t39=>(if (!t39)=true then X0 else ((eU.f k t33.1 t34.1).bind fun t40=>((fu.f k t36.1 t40).bind fun t41=>(if (!t41)=true then X0 else ((dV.f k t33.1 t34.1).bind fun t42=>((fu.f k t37.1 t42).bind fun t43=>(if (!t43)=true then X0 else (R (wq (v3+1)))))))))))))))))))))) else none) else none) else X1)
noncomputable def dx.l1:Nat→Int→Option γ
  | 0=>(fun _=>none)
  | k+1=>(fun v3=>(dx.l1T X0 X1 c1 c2 c8 c9 c10 c11 c12 c13 c14 c15 c16 c17 c18 c19 c20 c21 c22 c23 c24 c25 c26 c27 (dx.l1 k) k v3))
end
noncomputable def dx.f (k:Nat) (ab:Int) (ac:Int) (af:List (List P.S42)) (aa:List P.S44) (a1:Int) (a2:Int) (a3:Int) (a4:Int):Option (Bool):=((dz.f k ab ac af aa).bind fun t1=>(if (!t1)=true then ((eZ.f k).bind fun t2=>(some t2)) else ((cO.f k ab ac af aa a1 a3).bind fun t3=>((cO.f k ab ac af aa a2 (wC .i8 (a3+3))).bind fun t4=>(if (!t3.2)=true then ((eZ.f k).bind fun t5=>(some t5)) else (if (!t4.2)=true then ((eZ.f k).bind fun t6=>(some t6)) else ((dD.f k t3.1.f0 t3.1.f1 t3.1.f2 t3.1.f3 t4.1.f0 t4.1.f1 t4.1.f2 t4.1.f3).bind fun t7=>((dO.f k t3.1.f0 t3.1.f1 t3.1.f2 t3.1.f3 t4.1.f0 t4.1.f1 t4.1.f2 t4.1.f3).bind fun t8=>((dK.f k t3.1.f0 t3.1.f1 t3.1.f2 t3.1.f3 t4.1.f0 t4.1.f1 t4.1.f2 t4.1.f3).bind fun t9=>(if (!(decide (t7.2=0)))=true then (some false) else (if (!(decide (t8.2=0)))=true then (some false) else (if (!(decide (t9.2=0)))=true then (some false) else (dx.l0 (fun ah=>(dx.l1 (some false) ((iZ.f k t7.1.f0 t7.1.f1 t7.1.f2 t7.1.f3).bind fun t44=>(if t44=true then ((iZ.f k t8.1.f0 t8.1.f1 t8.1.f2 t8.1.f3).bind fun t45=>(if t45=true then ((iZ.f k t9.1.f0 t9.1.f1 t9.1.f2 t9.1.f3).bind fun t46=>(if t46=true then ((eZ.f k).bind fun t47=>(some t47)) else (some false))) else (some false))) else (some false))) ah (ah.length:Int) t3.1.f0 t3.1.f1 t3.1.f2 t3.1.f3 t4.1.f0 t4.1.f1 t4.1.f2 t4.1.f3 t7.1.f0 t7.1.f1 t7.1.f2 t7.1.f3 t8.1.f0 t8.1.f1 t8.1.f2 t8.1.f3 t9.1.f0 t9.1.f1 t9.1.f2 t9.1.f3 k 0)) aa (aa.length:Int) k [(Int.tmod (wq a4) 300),0,(-1),1] 0)))))))))))))
end Go.Proofs.YtcomnjodjijcmaaGreat.R
namespace Go.Proofs.YtcomnjodjijcmaaGreat.R
open M Go.RowKit Go.Proofs.YtcomnjodjijcmaaGreatW.dB Go.Proofs.YtcomnjodjijcmaaGreatW.d9 Go.Proofs.YtcomnjodjijcmaaGreatW.eO
set_option linter.unusedVariables false
noncomputable def dU.m (k:Nat):Sm:=jm [.fm] [.pl (.int .i64)] (fun a=>dU.f k a.1.f0 a.1.f1 a.1.f2 a.1.f3)
noncomputable def dU.l0.p:PS:=⟨[nO,.one (.bp 0 0),nO,.one (.i .i64)]++nOs 5++[.one (.s (.sl 42 .sp)),.one (.i .i64),.one (.i .i64)]++nOs 22,[.box 25 [.i .i64,.i .i64,.s (.sl 42 .sp),.s .gr]]⟩
noncomputable def dU.l0.c {γ:Type} (YK:HdK γ) (K:dQ→St→Option γ) (c5:Int) (c6:Int) (c7:List (List P.S42)) (c8:List P.S44):=(fun y1=>K (.exit 0) ((⟨[nO,.one (.bp 0 0),nO,.one (.i .i64)]++nOs 30,[.box 25 [.i .i64,.i .i64,.s (.sl 42 .sp),.s .gr]]⟩:PS).mk' [.i y1,.i c5,.i c6,.l (.sl 42 .sp) c7,.l .gr c8]))
noncomputable def dU.l0.g {γ:Type} (YK:HdK γ) (k:Nat) (K:dQ→St→Option γ):List Lf→Option γ
  | [.i v1,.l (.sl 42 .sp) c2,.i c3,.i v4,.i c5,.i c6,.l (.sl 42 .sp) c7,.l .gr c8]=>dU.l0 (dU.l0.c YK K c5 c6 c7 c8) c2 c3 k v1 v4
  | _=>none
noncomputable def dU.l1.p:PS:=⟨nOs 3++[.one (.i .i64)]++nOs 17++[.one (.s .gr),.one (.i .i64),.one (.i .i64)]++nOs 10,[.box 25 [.i .i64,.i .i64,.s (.sl 42 .sp),.s .gr]]⟩
noncomputable def dU.l1.c {γ:Type} (YK:HdK γ) (K:dQ→St→Option γ) (c5:Int) (c6:Int) (c7:List (List P.S42)) (c8:List P.S44):=(fun y1=>K (.exit 2) ((⟨nOs 3++[.one (.i .i64)]++nOs 30,[.box 25 [.i .i64,.i .i64,.s (.sl 42 .sp),.s .gr]]⟩:PS).mk' [.i y1,.i c5,.i c6,.l (.sl 42 .sp) c7,.l .gr c8]))
noncomputable def dU.l1.g {γ:Type} (YK:HdK γ) (k:Nat) (K:dQ→St→Option γ):List Lf→Option γ
  | [.i v1,.l .gr c2,.i c3,.i v4,.i c5,.i c6,.l (.sl 42 .sp) c7,.l .gr c8]=>dU.l1 (dU.l1.c YK K c5 c6 c7 c8) c2 c3 k v1 v4
  | _=>none
noncomputable def dU.C {γ:Type}:Ctx γ:=mkC (fun k=>mkE [] []) [(108,Tryz.f108)] [(108,mkA [] [(0,[1,3,9,10,11]),(2,[3,21,22,23])] [(0,[1,3]),(2,[3])] [])] [⟨0,108,0,iC [(dU.l0.p,dU.l0.g)]⟩,⟨0,108,2,iC [(dU.l1.p,dU.l1.g)]⟩] []
theorem dU.l0.eq {γ:Type} (YK:HdK γ) (rl:Option Nat) (K:dQ→St→Option γ) (c2:List (List P.S42)) (c3:Int) (c5:Int) (c6:Int) (c7:List (List P.S42)) (c8:List P.S44):∀ k:Nat,(fun (v1:Int) (v4:Int)=>dU.C.lK 0 108 0 Tryz.f108 YK rl 1 k (dU.l0.p.mk' [.i v1,.l (.sl 42 .sp) c2,.i c3,.i v4,.i c5,.i c6,.l (.sl 42 .sp) c7,.l .gr c8]) K)=(fun (v1:Int) (v4:Int)=>dU.l0.g YK k K [.i v1,.l (.sl 42 .sp) c2,.i c3,.i v4,.i c5,.i c6,.l (.sl 42 .sp) c7,.l .gr c8]):=fF (fun R k v1 v4=>dU.l0T (dU.l0.c YK K c5 c6 c7 c8) c2 c3 R k v1 v4) (by kernel_rfl) (fun k=>by kernel_rfl) (fun k=>by kernel_rfl)
theorem dU.l1.eq {γ:Type} (YK:HdK γ) (rl:Option Nat) (K:dQ→St→Option γ) (c2:List P.S44) (c3:Int) (c5:Int) (c6:Int) (c7:List (List P.S42)) (c8:List P.S44):∀ k:Nat,(fun (v1:Int) (v4:Int)=>dU.C.lK 0 108 2 Tryz.f108 YK rl 1 k (dU.l1.p.mk' [.i v1,.l .gr c2,.i c3,.i v4,.i c5,.i c6,.l (.sl 42 .sp) c7,.l .gr c8]) K)=(fun (v1:Int) (v4:Int)=>dU.l1.g YK k K [.i v1,.l .gr c2,.i c3,.i v4,.i c5,.i c6,.l (.sl 42 .sp) c7,.l .gr c8]):=fF (fun R k v1 v4=>dU.l1T (dU.l1.c YK K c5 c6 c7 c8) c2 c3 R k v1 v4) (by kernel_rfl) (fun k=>by kernel_rfl) (fun k=>by kernel_rfl)
theorem dU.fH {γ:Type}:(dU.C (γ:=γ)).Ok:=⟨(all_cons (fun k=>by kernel_rfl) all_nil),(all_cons (by kernel_rfl) all_nil),all_nil⟩
theorem dU.e0 {γ:Type}:iq (dU.C (γ:=γ)) ⟨0,108,0,iC [(dU.l0.p,dU.l0.g)]⟩:=dU.fH.kg Tryz.f108 [] (by kernel_rfl) (by kernel_rfl) (by kernel_rfl) (all_cons iJ (all_cons iJ all_nil)) (all_cons (fun YK rl k ls K v hv=>(show dU.l0.g YK k K ls=some v→_ from fun hv=>by
  unfold dU.l0.g at hv;split at hv
  · exact (congrFun (congrFun (dU.l0.eq YK rl K _ _ _ _ _ _ k) _) _).trans hv
  · cases hv) hv) all_nil)
theorem dU.e1 {γ:Type}:iq (dU.C (γ:=γ)) ⟨0,108,2,iC [(dU.l1.p,dU.l1.g)]⟩:=dU.fH.kg Tryz.f108 [] (by kernel_rfl) (by kernel_rfl) (by kernel_rfl) (all_cons iJ (all_cons iJ all_nil)) (all_cons (fun YK rl k ls K v hv=>(show dU.l1.g YK k K ls=some v→_ from fun hv=>by
  unfold dU.l1.g at hv;split at hv
  · exact (congrFun (congrFun (dU.l1.eq YK rl K _ _ _ _ _ _ k) _) _).trans hv
  · cases hv) hv) all_nil)
theorem dU.ok (k:Nat):jk Tryz.prog 108 (dU.m k).s:=okW dU.fH 0 Tryz.f108 k all_nil (fun k=>all_nil) (all_cons ⟨Tryz.func108,by kernel_rfl⟩ all_nil) (all_cons dU.e0 (all_cons dU.e1 all_nil)) (by kernel_rfl) (by kernel_rfl) (fun a=>by kernel_rfl)
noncomputable def gJ.m (k:Nat):Sm:=jm [(.int .i64)] [.pl .bool] (fun a=>gJ.f k a.1)
noncomputable def gJ.C {γ:Type}:Ctx γ:=mkC (fun k=>mkE [] []) [(53,Tryz.f53)] [(53,mkA [] [] [] [])] [] []
theorem gJ.fH {γ:Type}:(gJ.C (γ:=γ)).Ok:=⟨(all_cons (fun k=>by kernel_rfl) all_nil),(all_cons (by kernel_rfl) all_nil),all_nil⟩
theorem gJ.ok (k:Nat):jk Tryz.prog 53 (gJ.m k).s:=okW gJ.fH 0 Tryz.f53 k all_nil (fun k=>all_nil) (all_cons ⟨Tryz.func53,by kernel_rfl⟩ all_nil) all_nil (by kernel_rfl) (by kernel_rfl) (fun a=>by kernel_rfl)
noncomputable def iD.m (k:Nat):Sm:=jm [(.int .i64)] [.pl .bool] (fun a=>iD.f k a.1)
noncomputable def iD.C {γ:Type}:Ctx γ:=mkC (fun k=>mkE [] []) [(107,Tryz.f107)] [(107,mkA [] [] [] [])] [] []
theorem iD.fH {γ:Type}:(iD.C (γ:=γ)).Ok:=⟨(all_cons (fun k=>by kernel_rfl) all_nil),(all_cons (by kernel_rfl) all_nil),all_nil⟩
theorem iD.ok (k:Nat):jk Tryz.prog 107 (iD.m k).s:=okW iD.fH 0 Tryz.f107 k all_nil (fun k=>all_nil) (all_cons ⟨Tryz.func107,by kernel_rfl⟩ all_nil) all_nil (by kernel_rfl) (by kernel_rfl) (fun a=>by kernel_rfl)
noncomputable def eB.m (k:Nat):Sm:=jm [(.sl 42 .sp)] [.pl .bool] (fun a=>eB.f k a.1)
noncomputable def eB.l0.p:PS:=⟨[.one (.s .sp)]++nOs 4++[.one (.s .sp),.one (.i .i64),.one (.i .i64)]++nOs 38,[]⟩
noncomputable def eB.l0.c {γ:Type} (YK:HdK γ) (K:dQ→St→Option γ)  := ((K .ret ((⟨[nO,nO,.one (.lb false)]++nOs 43,[]⟩:PS).mk' [])),(K (.exit 0) ((⟨nOs 46,[]⟩:PS).mk' [])))
noncomputable def eB.l0.g {γ:Type} (YK:HdK γ) (k:Nat) (K:dQ→St→Option γ):List Lf→Option γ
  | [.l .sp c1,.l .sp c2,.i c3,.i v4]=>let q:=eB.l0.c YK K;eB.l0 q.1 q.2 c1 c2 c3 k v4
  | _=>none
noncomputable def eB.C {γ:Type}:Ctx γ:=mkC (fun k=>mkE [(107,iD.m k)] []) [(146,Tryz.f146)] [(146,mkA [] [(0,[0,5,6,7])] [(0,[2])] [])] [⟨0,146,0,iC [(eB.l0.p,eB.l0.g)]⟩] []
theorem eB.l0.eq {γ:Type} (YK:HdK γ) (rl:Option Nat) (K:dQ→St→Option γ) (c1:List P.S42) (c2:List P.S42) (c3:Int):∀ k:Nat,(fun (v4:Int)=>eB.C.lK 0 146 0 Tryz.f146 YK rl 0 k (eB.l0.p.mk' [.l .sp c1,.l .sp c2,.i c3,.i v4]) K)=(fun (v4:Int)=>eB.l0.g YK k K [.l .sp c1,.l .sp c2,.i c3,.i v4]):=fF (fun R k v4=>eB.l0T (eB.l0.c YK K).1 (eB.l0.c YK K).2 c1 c2 c3 R k v4) (by kernel_rfl) (fun k=>by kernel_rfl) (fun k=>by kernel_rfl)
theorem eB.fH {γ:Type}:(eB.C (γ:=γ)).Ok:=⟨(all_cons (fun k=>by kernel_rfl) all_nil),(all_cons (by kernel_rfl) all_nil),all_nil⟩
theorem eB.e0 {γ:Type}:iq (eB.C (γ:=γ)) ⟨0,146,0,iC [(eB.l0.p,eB.l0.g)]⟩:=eB.fH.kg Tryz.f146 [] (by kernel_rfl) (by kernel_rfl) (by kernel_rfl) (all_cons iJ all_nil) (all_cons (fun YK rl k ls K v hv=>(show eB.l0.g YK k K ls=some v→_ from fun hv=>by
  unfold eB.l0.g at hv;split at hv
  · exact (congrFun (eB.l0.eq YK rl K _ _ _ k) _).trans hv
  · cases hv) hv) all_nil)
theorem eB.ok (k:Nat):jk Tryz.prog 146 (eB.m k).s:=okW eB.fH 0 Tryz.f146 k all_nil (fun k=>all_cons (iD.ok k) (all_nil)) (all_cons ⟨Tryz.func146,by kernel_rfl⟩ all_nil) (all_cons eB.e0 all_nil) (by kernel_rfl) (by kernel_rfl) (fun a=>by kernel_rfl)
noncomputable def dG.m (k:Nat):Sm:=jm [.fm] [.pl .bool] (fun a=>dG.f k a.1.f0 a.1.f1 a.1.f2 a.1.f3)
noncomputable def dG.l1.p:PS:=⟨[nO,.one (.bp 0 0)]++nOs 31++[.one (.s (.sl 42 .sp)),.one (.i .i64),.one (.i .i64)]++nOs 42,[.box 25 [.i .i64,.i .i64,.s (.sl 42 .sp),.s .gr]]⟩
noncomputable def dG.l1.c {γ:Type} (YK:HdK γ) (K:dQ→St→Option γ) (c4:Int) (c5:Int) (c6:List (List P.S42)) (c7:List P.S44):=((K .ret ((⟨[nO,.one (.bp 0 0),.one (.lb false)]++nOs 75,[.box 25 [.i .i64,.i .i64,.s (.sl 42 .sp),.s .gr]]⟩:PS).mk' [.i c4,.i c5,.l (.sl 42 .sp) c6,.l .gr c7])),(K (.exit 0) ((⟨[nO,.one (.bp 0 0)]++nOs 76,[.box 25 [.i .i64,.i .i64,.s (.sl 42 .sp),.s .gr]]⟩:PS).mk' [.i c4,.i c5,.l (.sl 42 .sp) c6,.l .gr c7])))
noncomputable def dG.l1.g {γ:Type} (YK:HdK γ) (k:Nat) (K:dQ→St→Option γ):List Lf→Option γ
  | [.l (.sl 42 .sp) c1,.i c2,.i v3,.i c4,.i c5,.l (.sl 42 .sp) c6,.l .gr c7]=>let q:=dG.l1.c YK K c4 c5 c6 c7;dG.l1 q.1 q.2 c1 c2 k v3
  | _=>none
noncomputable def dG.l2.p:PS:=⟨[nO,.one (.bp 0 0)]++nOs 42++[.one (.s .gr),.one (.i .i64),.one (.i .i64)]++nOs 31,[.box 25 [.i .i64,.i .i64,.s (.sl 42 .sp),.s .gr]]⟩
noncomputable def dG.l2.c {γ:Type} (YK:HdK γ) (K:dQ→St→Option γ) (c4:Int) (c5:Int) (c6:List (List P.S42)) (c7:List P.S44):=((K .ret ((⟨[nO,nO,.one (.lb false)]++nOs 75,[.box 25 [.i .i64,.i .i64,.s (.sl 42 .sp),.s .gr]]⟩:PS).mk' [.i c4,.i c5,.l (.sl 42 .sp) c6,.l .gr c7])),(K (.exit 2) ((⟨nOs 78,[.box 25 [.i .i64,.i .i64,.s (.sl 42 .sp),.s .gr]]⟩:PS).mk' [.i c4,.i c5,.l (.sl 42 .sp) c6,.l .gr c7])))
noncomputable def dG.l2.g {γ:Type} (YK:HdK γ) (k:Nat) (K:dQ→St→Option γ):List Lf→Option γ
  | [.l .gr c1,.i c2,.i v3,.i c4,.i c5,.l (.sl 42 .sp) c6,.l .gr c7]=>let q:=dG.l2.c YK K c4 c5 c6 c7;dG.l2 q.1 q.2 c1 c2 c7 k v3
  | _=>none
noncomputable def dG.l0.p:PS:=⟨[nO,.one (.bp 0 0)]++nOs 76,[.box 25 [.i .i64,.i .i64,.s (.sl 42 .sp),.s .gr]]⟩
noncomputable def dG.l0.c {γ:Type} (YK:HdK γ) (K:dQ→St→Option γ)  := ((fun y1 y2 y3 y4=>K .ret ((⟨[nO,nO,.one (.lb false)]++nOs 75,[.box 25 [.i .i64,.i .i64,.s (.sl 42 .sp),.s .gr]]⟩:PS).mk' [.i y1,.i y2,.l (.sl 42 .sp) y3,.l .gr y4])),(fun y1 y2 y3 y4=>K .ret ((⟨[nO,nO,.one (.lb true)]++nOs 75,[.box 25 [.i .i64,.i .i64,.s (.sl 42 .sp),.s .gr]]⟩:PS).mk' [.i y1,.i y2,.l (.sl 42 .sp) y3,.l .gr y4])))
noncomputable def dG.l0.g {γ:Type} (YK:HdK γ) (k:Nat) (K:dQ→St→Option γ):List Lf→Option γ
  | [.i v1,.i v2,.l (.sl 42 .sp) v3,.l .gr v4]=>let q:=dG.l0.c YK K;dG.l0 q.1 q.2 k v1 v2 v3 v4
  | _=>none
noncomputable def dG.C {γ:Type}:Ctx γ:=mkC (fun k=>mkE [(53,gJ.m k),(146,eB.m k)] []) [(109,Tryz.f109)] [(109,mkA [] [(0,[1,33,34,35]),(2,[1,44,45,46]),(1000010,[1])] [(0,[1,2]),(2,[2]),(1000010,[2])] [])] [⟨0,109,0,iC [(dG.l1.p,dG.l1.g)]⟩,⟨0,109,2,iC [(dG.l2.p,dG.l2.g)]⟩,⟨0,109,1000010,iC [(dG.l0.p,dG.l0.g)]⟩] []
theorem dG.l1.eq {γ:Type} (YK:HdK γ) (rl:Option Nat) (K:dQ→St→Option γ) (c1:List (List P.S42)) (c2:Int) (c4:Int) (c5:Int) (c6:List (List P.S42)) (c7:List P.S44):∀ k:Nat,(fun (v3:Int)=>dG.C.lK 0 109 0 Tryz.f109 YK rl 1 k (dG.l1.p.mk' [.l (.sl 42 .sp) c1,.i c2,.i v3,.i c4,.i c5,.l (.sl 42 .sp) c6,.l .gr c7]) K)=(fun (v3:Int)=>dG.l1.g YK k K [.l (.sl 42 .sp) c1,.i c2,.i v3,.i c4,.i c5,.l (.sl 42 .sp) c6,.l .gr c7]):=fF (fun R k v3=>dG.l1T (dG.l1.c YK K c4 c5 c6 c7).1 (dG.l1.c YK K c4 c5 c6 c7).2 c1 c2 R k v3) (by kernel_rfl) (fun k=>by kernel_rfl) (fun k=>by kernel_rfl)
theorem dG.l2.eq {γ:Type} (YK:HdK γ) (rl:Option Nat) (K:dQ→St→Option γ) (c1:List P.S44) (c2:Int) (c4:Int) (c5:Int) (c6:List (List P.S42)) (c7:List P.S44):∀ k:Nat,(fun (v3:Int)=>dG.C.lK 0 109 2 Tryz.f109 YK rl 1 k (dG.l2.p.mk' [.l .gr c1,.i c2,.i v3,.i c4,.i c5,.l (.sl 42 .sp) c6,.l .gr c7]) K)=(fun (v3:Int)=>dG.l2.g YK k K [.l .gr c1,.i c2,.i v3,.i c4,.i c5,.l (.sl 42 .sp) c6,.l .gr c7]):=fF (fun R k v3=>dG.l2T (dG.l2.c YK K c4 c5 c6 c7).1 (dG.l2.c YK K c4 c5 c6 c7).2 c1 c2 c7 R k v3) (by kernel_rfl) (fun k=>by kernel_rfl) (fun k=>by kernel_rfl)
theorem dG.l0.eq {γ:Type} (YK:HdK γ) (rl:Option Nat) (K:dQ→St→Option γ) (k:Nat) (v1:Int) (v2:Int) (v3:List (List P.S42)) (v4:List P.S44):dG.C.lK 0 109 1000010 Tryz.f109 YK rl 1 k (dG.l0.p.mk' [.i v1,.i v2,.l (.sl 42 .sp) v3,.l .gr v4]) K=dG.l0.g YK k K [.i v1,.i v2,.l (.sl 42 .sp) v3,.l .gr v4]:=by kernel_rfl
theorem dG.fH {γ:Type}:(dG.C (γ:=γ)).Ok:=⟨(all_cons (fun k=>by kernel_rfl) all_nil),(all_cons (by kernel_rfl) all_nil),all_nil⟩
theorem dG.e0 {γ:Type}:iq (dG.C (γ:=γ)) ⟨0,109,0,iC [(dG.l1.p,dG.l1.g)]⟩:=dG.fH.kg Tryz.f109 [] (by kernel_rfl) (by kernel_rfl) (by kernel_rfl) (all_cons iJ (all_cons iJ (all_cons iJ all_nil))) (all_cons (fun YK rl k ls K v hv=>(show dG.l1.g YK k K ls=some v→_ from fun hv=>by
  unfold dG.l1.g at hv;split at hv
  · exact (congrFun (dG.l1.eq YK rl K _ _ _ _ _ _ k) _).trans hv
  · cases hv) hv) all_nil)
theorem dG.e1 {γ:Type}:iq (dG.C (γ:=γ)) ⟨0,109,2,iC [(dG.l2.p,dG.l2.g)]⟩:=dG.fH.kg Tryz.f109 [] (by kernel_rfl) (by kernel_rfl) (by kernel_rfl) (all_cons iJ (all_cons iJ (all_cons iJ all_nil))) (all_cons (fun YK rl k ls K v hv=>(show dG.l2.g YK k K ls=some v→_ from fun hv=>by
  unfold dG.l2.g at hv;split at hv
  · exact (congrFun (dG.l2.eq YK rl K _ _ _ _ _ _ k) _).trans hv
  · cases hv) hv) all_nil)
theorem dG.e2 {γ:Type}:iq (dG.C (γ:=γ)) ⟨0,109,1000010,iC [(dG.l0.p,dG.l0.g)]⟩:=dG.fH.kg Tryz.f109 [0,2] (by kernel_rfl) (by kernel_rfl) (by kernel_rfl) (all_cons (fun _=>dG.e0) (all_cons (fun _=>dG.e1) (all_cons iJ all_nil))) (all_cons (fun YK rl k ls K v hv=>(show dG.l0.g YK k K ls=some v→_ from fun hv=>by
  unfold dG.l0.g at hv;split at hv
  · exact (dG.l0.eq YK rl K k _ _ _ _).trans hv
  · cases hv) hv) all_nil)
theorem dG.ok (k:Nat):jk Tryz.prog 109 (dG.m k).s:=okW dG.fH 0 Tryz.f109 k all_nil (fun k=>all_cons (gJ.ok k) (all_cons (eB.ok k) (all_nil))) (all_cons ⟨Tryz.func109,by kernel_rfl⟩ all_nil) (all_cons dG.e0 (all_cons dG.e1 (all_cons dG.e2 all_nil))) (by kernel_rfl) (by kernel_rfl) (fun a=>by kernel_rfl)
noncomputable def dM.m (k:Nat):Sm:=jm [.fm] [.pl .bool] (fun a=>dM.f k a.1.f0 a.1.f1 a.1.f2 a.1.f3)
noncomputable def dM.l0.p:PS:=⟨[nO,.one (.bp 0 0),nO,.one (.o 37 (.sl 42 .sp))]++nOs 7++[.one (.s (.sl 42 .sp)),.one (.i .i64),.one (.i .i64)]++nOs 48,[.box 25 [.i .i64,.i .i64,.s (.sl 42 .sp),.s .gr]]⟩
noncomputable def dM.l0.c {γ:Type} (YK:HdK γ) (K:dQ→St→Option γ) (c5:Int) (c6:Int) (c7:List (List P.S42)) (c8:List P.S44):=(fun y1=>K (.exit 0) ((⟨[nO,.one (.bp 0 0),nO,.one (.o 37 (.sl 42 .sp))]++nOs 58,[.box 25 [.i .i64,.i .i64,.s (.sl 42 .sp),.s .gr]]⟩:PS).mk' [.l (.sl 42 .sp) y1,.i c5,.i c6,.l (.sl 42 .sp) c7,.l .gr c8]))
noncomputable def dM.l0.g {γ:Type} (YK:HdK γ) (k:Nat) (K:dQ→St→Option γ):List Lf→Option γ
  | [.l (.sl 42 .sp) v1,.l (.sl 42 .sp) c2,.i c3,.i v4,.i c5,.i c6,.l (.sl 42 .sp) c7,.l .gr c8]=>dM.l0 (dM.l0.c YK K c5 c6 c7 c8) c2 c3 k v1 v4
  | _=>none
noncomputable def dM.l1.p:PS:=⟨[nO,.one (.bp 0 0),nO,.one (.o 37 (.sl 42 .sp))]++nOs 21++[.one (.s (.sl 42 .sp)),.one (.i .i64),.one (.i .i64)]++nOs 34,[.box 25 [.i .i64,.i .i64,.s (.sl 42 .sp),.s .gr]]⟩
noncomputable def dM.l1.c {γ:Type} (YK:HdK γ) (K:dQ→St→Option γ) (c5:Int) (c6:Int) (c7:List (List P.S42)) (c8:List P.S44):=((K .ret ((⟨[nO,nO,.one (.lb false)]++nOs 59,[.box 25 [.i .i64,.i .i64,.s (.sl 42 .sp),.s .gr]]⟩:PS).mk' [.i c5,.i c6,.l (.sl 42 .sp) c7,.l .gr c8])),(K (.exit 2) ((⟨nOs 62,[.box 25 [.i .i64,.i .i64,.s (.sl 42 .sp),.s .gr]]⟩:PS).mk' [.i c5,.i c6,.l (.sl 42 .sp) c7,.l .gr c8])))
noncomputable def dM.l1.g {γ:Type} (YK:HdK γ) (k:Nat) (K:dQ→St→Option γ):List Lf→Option γ
  | [.l (.sl 42 .sp) c1,.l (.sl 42 .sp) c2,.i c3,.i v4,.i c5,.i c6,.l (.sl 42 .sp) c7,.l .gr c8]=>let q:=dM.l1.c YK K c5 c6 c7 c8;dM.l1 q.1 q.2 c1 c2 c3 c5 k v4
  | _=>none
noncomputable def dM.C {γ:Type}:Ctx γ:=mkC (fun k=>mkE [] []) [(110,Tryz.f110)] [(110,mkA [20] [(0,[1,3,11,12,13]),(2,[1,3,25,26,27])] [(0,[1,3]),(2,[2])] [])] [⟨0,110,0,iC [(dM.l0.p,dM.l0.g)]⟩,⟨0,110,2,iC [(dM.l1.p,dM.l1.g)]⟩] []
theorem dM.l0.eq {γ:Type} (YK:HdK γ) (rl:Option Nat) (K:dQ→St→Option γ) (c2:List (List P.S42)) (c3:Int) (c5:Int) (c6:Int) (c7:List (List P.S42)) (c8:List P.S44):∀ k:Nat,(fun (v1:List (List P.S42)) (v4:Int)=>dM.C.lK 0 110 0 Tryz.f110 YK rl 1 k (dM.l0.p.mk' [.l (.sl 42 .sp) v1,.l (.sl 42 .sp) c2,.i c3,.i v4,.i c5,.i c6,.l (.sl 42 .sp) c7,.l .gr c8]) K)=(fun (v1:List (List P.S42)) (v4:Int)=>dM.l0.g YK k K [.l (.sl 42 .sp) v1,.l (.sl 42 .sp) c2,.i c3,.i v4,.i c5,.i c6,.l (.sl 42 .sp) c7,.l .gr c8]):=fF (fun R k v1 v4=>dM.l0T (dM.l0.c YK K c5 c6 c7 c8) c2 c3 R k v1 v4) (by kernel_rfl) (fun k=>by kernel_rfl) (fun k=>by kernel_rfl)
theorem dM.l1.eq {γ:Type} (YK:HdK γ) (rl:Option Nat) (K:dQ→St→Option γ) (c1:List (List P.S42)) (c2:List (List P.S42)) (c3:Int) (c5:Int) (c6:Int) (c7:List (List P.S42)) (c8:List P.S44):∀ k:Nat,(fun (v4:Int)=>dM.C.lK 0 110 2 Tryz.f110 YK rl 1 k (dM.l1.p.mk' [.l (.sl 42 .sp) c1,.l (.sl 42 .sp) c2,.i c3,.i v4,.i c5,.i c6,.l (.sl 42 .sp) c7,.l .gr c8]) K)=(fun (v4:Int)=>dM.l1.g YK k K [.l (.sl 42 .sp) c1,.l (.sl 42 .sp) c2,.i c3,.i v4,.i c5,.i c6,.l (.sl 42 .sp) c7,.l .gr c8]):=fF (fun R k v4=>dM.l1T (dM.l1.c YK K c5 c6 c7 c8).1 (dM.l1.c YK K c5 c6 c7 c8).2 c1 c2 c3 c5 R k v4) (by kernel_rfl) (fun k=>by kernel_rfl) (fun k=>by kernel_rfl)
theorem dM.fH {γ:Type}:(dM.C (γ:=γ)).Ok:=⟨(all_cons (fun k=>by kernel_rfl) all_nil),(all_cons (by kernel_rfl) all_nil),all_nil⟩
theorem dM.e0 {γ:Type}:iq (dM.C (γ:=γ)) ⟨0,110,0,iC [(dM.l0.p,dM.l0.g)]⟩:=dM.fH.kg Tryz.f110 [] (by kernel_rfl) (by kernel_rfl) (by kernel_rfl) (all_cons iJ (all_cons iJ all_nil)) (all_cons (fun YK rl k ls K v hv=>(show dM.l0.g YK k K ls=some v→_ from fun hv=>by
  unfold dM.l0.g at hv;split at hv
  · exact (congrFun (congrFun (dM.l0.eq YK rl K _ _ _ _ _ _ k) _) _).trans hv
  · cases hv) hv) all_nil)
theorem dM.e1 {γ:Type}:iq (dM.C (γ:=γ)) ⟨0,110,2,iC [(dM.l1.p,dM.l1.g)]⟩:=dM.fH.kg Tryz.f110 [] (by kernel_rfl) (by kernel_rfl) (by kernel_rfl) (all_cons iJ (all_cons iJ all_nil)) (all_cons (fun YK rl k ls K v hv=>(show dM.l1.g YK k K ls=some v→_ from fun hv=>by
  unfold dM.l1.g at hv;split at hv
  · exact (congrFun (dM.l1.eq YK rl K _ _ _ _ _ _ _ k) _).trans hv
  · cases hv) hv) all_nil)
theorem dM.ok (k:Nat):jk Tryz.prog 110 (dM.m k).s:=okW dM.fH 0 Tryz.f110 k all_nil (fun k=>all_nil) (all_cons ⟨Tryz.func110,by kernel_rfl⟩ all_nil) (all_cons dM.e0 (all_cons dM.e1 all_nil)) (by kernel_rfl) (by kernel_rfl) (fun a=>by kernel_rfl)
noncomputable def gN.m (k:Nat):Sm:=jm [(.int .i64),(.int .i64)] [.pl (.int .i64),.pl (.int .i64),.pl (.int .i64)] (fun a=>gN.f k a.1 a.2.1)
noncomputable def gN.C {γ:Type}:Ctx γ:=mkC (fun k=>mkE [] []) [(70,Tryz.f70)] [(70,mkA [] [] [] [])] [] []
theorem gN.fH {γ:Type}:(gN.C (γ:=γ)).Ok:=⟨(all_cons (fun k=>by kernel_rfl) all_nil),(all_cons (by kernel_rfl) all_nil),all_nil⟩
theorem gN.ok (k:Nat):jk Tryz.prog 70 (gN.m k).s:=okW gN.fH 0 Tryz.f70 k all_nil (fun k=>all_nil) (all_cons ⟨Tryz.func70,by kernel_rfl⟩ all_nil) all_nil (by kernel_rfl) (by kernel_rfl) (fun a=>by kernel_rfl)
noncomputable def cmp_isNaN_int.m (k:Nat):Sm:=jm [(.int .i64)] [.pl .bool] (fun a=>cmp_isNaN_int.f k a.1)
noncomputable def cmp_isNaN_int.C {γ:Type}:Ctx γ:=mkC (fun k=>mkE [] []) [(172,Tryz.f172)] [(172,mkA [] [] [] [])] [] []
theorem cmp_isNaN_int.fH {γ:Type}:(cmp_isNaN_int.C (γ:=γ)).Ok:=⟨(all_cons (fun k=>by kernel_rfl) all_nil),(all_cons (by kernel_rfl) all_nil),all_nil⟩
theorem cmp_isNaN_int.ok (k:Nat):jk Tryz.prog 172 (cmp_isNaN_int.m k).s:=okW cmp_isNaN_int.fH 0 Tryz.f172 k all_nil (fun k=>all_nil) (all_cons ⟨Tryz.func172,by kernel_rfl⟩ all_nil) all_nil (by kernel_rfl) (by kernel_rfl) (fun a=>by kernel_rfl)
noncomputable def cmp_Compare_int.m (k:Nat):Sm:=jm [(.int .i64),(.int .i64)] [.pl (.int .i64)] (fun a=>cmp_Compare_int.f k a.1 a.2.1)
noncomputable def cmp_Compare_int.C {γ:Type}:Ctx γ:=mkC (fun k=>mkE [(172,cmp_isNaN_int.m k)] []) [(142,Tryz.f142)] [(142,mkA [] [] [] [])] [] []
theorem cmp_Compare_int.fH {γ:Type}:(cmp_Compare_int.C (γ:=γ)).Ok:=⟨(all_cons (fun k=>by kernel_rfl) all_nil),(all_cons (by kernel_rfl) all_nil),all_nil⟩
theorem cmp_Compare_int.ok (k:Nat):jk Tryz.prog 142 (cmp_Compare_int.m k).s:=okW cmp_Compare_int.fH 0 Tryz.f142 k all_nil (fun k=>all_cons (cmp_isNaN_int.ok k) (all_nil)) (all_cons ⟨Tryz.func142,by kernel_rfl⟩ all_nil) all_nil (by kernel_rfl) (by kernel_rfl) (fun a=>by kernel_rfl)
noncomputable def jc.m (k:Nat):Sm:=jm [.gr,(.int .i64)] [.pl (.int .i64)] (fun a=>jc.f k a.1.f0 a.1.f1 a.2.1)
noncomputable def jc.C {γ:Type}:Ctx γ:=mkC (fun k=>mkE [(142,cmp_Compare_int.m k)] []) [(141,Tryz.f141)] [(141,mkA [] [] [] [])] [] []
theorem jc.fH {γ:Type}:(jc.C (γ:=γ)).Ok:=⟨(all_cons (fun k=>by kernel_rfl) all_nil),(all_cons (by kernel_rfl) all_nil),all_nil⟩
theorem jc.ok (k:Nat):jk Tryz.prog 141 (jc.m k).s:=okW jc.fH 0 Tryz.f141 k all_nil (fun k=>all_cons (cmp_Compare_int.ok k) (all_nil)) (all_cons ⟨Tryz.func141,by kernel_rfl⟩ all_nil) all_nil (by kernel_rfl) (by kernel_rfl) (fun a=>by kernel_rfl)
noncomputable def fq.m (k:Nat):Sm:=jm [.fm,(.int .i64)] [.pl (.int .i64),.pl .bool] (fun a=>fq.f k a.1.f0 a.1.f1 a.1.f2 a.1.f3 a.2.1)
noncomputable def fq.l0.p:PS:=⟨[.one (.s .gr),.one (.i .i64),.one (.fn 141 [])]++nOs 5++[.one (.i .i64),.one (.i .i64),.one (.i .i64)]++nOs 38,[.box 25 [.i .i64,.i .i64,.s (.sl 42 .sp),.s .gr]]⟩
noncomputable def fq.l0.c {γ:Type} (YK:HdK γ) (K:dQ→St→Option γ) (c1:List P.S44) (c2:Int) (c3:Int) (c6:Int) (c7:Int) (c8:List (List P.S42)) (c9:List P.S44):=(fun y1=>K (.exit 0) ((⟨[.one (.s .gr),.one (.i .i64),.one (.fn 141 [])]++nOs 5++[.one (.i .i64),.one (.i .i64)]++nOs 39,[.box 25 [.i .i64,.i .i64,.s (.sl 42 .sp),.s .gr]]⟩:PS).mk' [.l .gr c1,.i c2,.i c3,.i y1,.i c6,.i c7,.l (.sl 42 .sp) c8,.l .gr c9]))
noncomputable def fq.l0.g {γ:Type} (YK:HdK γ) (k:Nat) (K:dQ→St→Option γ):List Lf→Option γ
  | [.l .gr c1,.i c2,.i c3,.i v4,.i v5,.i c6,.i c7,.l (.sl 42 .sp) c8,.l .gr c9]=>fq.l0 (fq.l0.c YK K c1 c2 c3 c6 c7 c8 c9) c1 c2 k v4 v5
  | _=>none
noncomputable def fq.C {γ:Type}:Ctx γ:=mkC (fun k=>mkE [(141,jc.m k)] []) [(104,Tryz.f104),(140,Tryz.f140)] [(104,mkA [] [] [] []),(140,mkA [] [(0,[0,1,2,8,9,10])] [(0,[0,1,2,8,9])] [])] [⟨0,140,0,iC [(fq.l0.p,fq.l0.g)]⟩] []
theorem fq.l0.eq {γ:Type} (YK:HdK γ) (rl:Option Nat) (K:dQ→St→Option γ) (c1:List P.S44) (c2:Int) (c3:Int) (c6:Int) (c7:Int) (c8:List (List P.S42)) (c9:List P.S44):∀ k:Nat,(fun (v4:Int) (v5:Int)=>fq.C.lK 0 140 0 Tryz.f140 YK rl 1 k (fq.l0.p.mk' [.l .gr c1,.i c2,.i c3,.i v4,.i v5,.i c6,.i c7,.l (.sl 42 .sp) c8,.l .gr c9]) K)=(fun (v4:Int) (v5:Int)=>fq.l0.g YK k K [.l .gr c1,.i c2,.i c3,.i v4,.i v5,.i c6,.i c7,.l (.sl 42 .sp) c8,.l .gr c9]):=fF (fun R k v4 v5=>fq.l0T (fq.l0.c YK K c1 c2 c3 c6 c7 c8 c9) c1 c2 R k v4 v5) (by kernel_rfl) (fun k=>by kernel_rfl) (fun k=>by kernel_rfl)
theorem fq.fH {γ:Type}:(fq.C (γ:=γ)).Ok:=⟨(all_cons (fun k=>by kernel_rfl) (all_cons (fun k=>by kernel_rfl) all_nil)),(all_cons (by kernel_rfl) (all_cons (by kernel_rfl) all_nil)),all_nil⟩
theorem fq.e0 {γ:Type}:iq (fq.C (γ:=γ)) ⟨0,140,0,iC [(fq.l0.p,fq.l0.g)]⟩:=fq.fH.kg Tryz.f140 [] (by kernel_rfl) (by kernel_rfl) (by kernel_rfl) (all_cons iJ all_nil) (all_cons (fun YK rl k ls K v hv=>(show fq.l0.g YK k K ls=some v→_ from fun hv=>by
  unfold fq.l0.g at hv;split at hv
  · exact (congrFun (congrFun (fq.l0.eq YK rl K _ _ _ _ _ _ _ k) _) _).trans hv
  · cases hv) hv) all_nil)
theorem fq.ok (k:Nat):jk Tryz.prog 104 (fq.m k).s:=okW fq.fH 1 Tryz.f104 k all_nil (fun k=>all_cons (jc.ok k) (all_nil)) (all_cons ⟨Tryz.func104,by kernel_rfl⟩ (all_cons ⟨Tryz.func140,by kernel_rfl⟩ all_nil)) (all_cons fq.e0 all_nil) (by kernel_rfl) (by kernel_rfl) (fun a=>by kernel_rfl)
noncomputable def bits_Mul64.m (k:Nat):Sm:=jm [(.int .u64),(.int .u64)] [.pl (.int .u64),.pl (.int .u64)] (fun a=>bits_Mul64.f k a.1 a.2.1)
noncomputable def bits_Mul64.C {γ:Type}:Ctx γ:=mkC (fun k=>mkE [] []) [(143,Tryz.f143)] [(143,mkA [] [] [] [])] [] []
theorem bits_Mul64.fH {γ:Type}:(bits_Mul64.C (γ:=γ)).Ok:=⟨(all_cons (fun k=>by kernel_rfl) all_nil),(all_cons (by kernel_rfl) all_nil),all_nil⟩
theorem bits_Mul64.ok (k:Nat):jk Tryz.prog 143 (bits_Mul64.m k).s:=okW bits_Mul64.fH 0 Tryz.f143 k all_nil (fun k=>all_nil) (all_cons ⟨Tryz.func143,by kernel_rfl⟩ all_nil) all_nil (by kernel_rfl) (by kernel_rfl) (fun a=>by kernel_rfl)
noncomputable def iF.m (k:Nat):Sm:=jm [(.int .i64)] [.pl (.int .u64)] (fun a=>iF.f k a.1)
noncomputable def iF.C {γ:Type}:Ctx γ:=mkC (fun k=>mkE [] []) [(144,Tryz.f144)] [(144,mkA [] [] [] [])] [] []
theorem iF.fH {γ:Type}:(iF.C (γ:=γ)).Ok:=⟨(all_cons (fun k=>by kernel_rfl) all_nil),(all_cons (by kernel_rfl) all_nil),all_nil⟩
theorem iF.ok (k:Nat):jk Tryz.prog 144 (iF.m k).s:=okW iF.fH 0 Tryz.f144 k all_nil (fun k=>all_nil) (all_cons ⟨Tryz.func144,by kernel_rfl⟩ all_nil) all_nil (by kernel_rfl) (by kernel_rfl) (fun a=>by kernel_rfl)
noncomputable def iy.m (k:Nat):Sm:=jm [(.int .u64),.bool] [.pl (.int .i64),.pl (.int .i64)] (fun a=>iy.f k a.1 a.2.1)
noncomputable def iy.C {γ:Type}:Ctx γ:=mkC (fun k=>mkE [] []) [(145,Tryz.f145)] [(145,mkA [] [] [] [])] [] []
theorem iy.fH {γ:Type}:(iy.C (γ:=γ)).Ok:=⟨(all_cons (fun k=>by kernel_rfl) all_nil),(all_cons (by kernel_rfl) all_nil),all_nil⟩
theorem iy.ok (k:Nat):jk Tryz.prog 145 (iy.m k).s:=okW iy.fH 0 Tryz.f145 k all_nil (fun k=>all_nil) (all_cons ⟨Tryz.func145,by kernel_rfl⟩ all_nil) all_nil (by kernel_rfl) (by kernel_rfl) (fun a=>by kernel_rfl)
noncomputable def iK.m (k:Nat):Sm:=jm [(.int .i64),(.int .i64)] [.pl (.int .i64),.pl (.int .i64)] (fun a=>iK.f k a.1 a.2.1)
noncomputable def iK.C {γ:Type}:Ctx γ:=mkC (fun k=>mkE [(143,bits_Mul64.m k),(144,iF.m k),(145,iy.m k)] []) [(105,Tryz.f105)] [(105,mkA [] [] [] [])] [] []
theorem iK.fH {γ:Type}:(iK.C (γ:=γ)).Ok:=⟨(all_cons (fun k=>by kernel_rfl) all_nil),(all_cons (by kernel_rfl) all_nil),all_nil⟩
theorem iK.ok (k:Nat):jk Tryz.prog 105 (iK.m k).s:=okW iK.fH 0 Tryz.f105 k all_nil (fun k=>all_cons (bits_Mul64.ok k) (all_cons (iF.ok k) (all_cons (iy.ok k) (all_nil)))) (all_cons ⟨Tryz.func105,by kernel_rfl⟩ all_nil) all_nil (by kernel_rfl) (by kernel_rfl) (fun a=>by kernel_rfl)
noncomputable def je.m (k:Nat):Sm:=jm [.fm,(.int .i64)] [.pl (.sl 42 .sp),.pl (.int .i64),.pl (.int .i64)] (fun a=>je.f k a.1.f0 a.1.f1 a.1.f2 a.1.f3 a.2.1)
noncomputable def je.C {γ:Type}:Ctx γ:=mkC (fun k=>mkE [(70,gN.m k),(104,fq.m k),(105,iK.m k)] []) [(54,Tryz.f54)] [(54,mkA [] [] [] [])] [] []
theorem je.fH {γ:Type}:(je.C (γ:=γ)).Ok:=⟨(all_cons (fun k=>by kernel_rfl) all_nil),(all_cons (by kernel_rfl) all_nil),all_nil⟩
theorem je.ok (k:Nat):jk Tryz.prog 54 (je.m k).s:=okW je.fH 0 Tryz.f54 k all_nil (fun k=>all_cons (gN.ok k) (all_cons (fq.ok k) (all_cons (iK.ok k) (all_nil)))) (all_cons ⟨Tryz.func54,by kernel_rfl⟩ all_nil) all_nil (by kernel_rfl) (by kernel_rfl) (fun a=>by kernel_rfl)
noncomputable def jC.m (k:Nat):Sm:=jm [(.int .i64),(.int .i64)] [.pl (.int .i64),.pl (.int .i64)] (fun a=>jC.f k a.1 a.2.1)
noncomputable def jC.C {γ:Type}:Ctx γ:=mkC (fun k=>mkE [] []) [(106,Tryz.f106)] [(106,mkA [] [] [] [])] [] []
theorem jC.fH {γ:Type}:(jC.C (γ:=γ)).Ok:=⟨(all_cons (fun k=>by kernel_rfl) all_nil),(all_cons (by kernel_rfl) all_nil),all_nil⟩
theorem jC.ok (k:Nat):jk Tryz.prog 106 (jC.m k).s:=okW jC.fH 0 Tryz.f106 k all_nil (fun k=>all_nil) (all_cons ⟨Tryz.func106,by kernel_rfl⟩ all_nil) all_nil (by kernel_rfl) (by kernel_rfl) (fun a=>by kernel_rfl)
noncomputable def eG.m (k:Nat):Sm:=jm [(.sl 42 .sp),(.int .i64)] [.own 42 .sp,.pl (.int .i64)] (fun a=>eG.f k a.1 a.2.1)
noncomputable def eG.l0.p:PS:=⟨[nO,.one (.i .i64)]++nOs 4++[.one (.o 42 .sp)]++nOs 6++[.one (.s .sp),.one (.i .i64),.one (.i .i64)]++nOs 41,[]⟩
noncomputable def eG.l0.c {γ:Type} (YK:HdK γ) (K:dQ→St→Option γ)  := ((fun y1=>K .ret ((⟨nOs 4++[.one (.lo 42 .sp),.one (.li .i64 20),.one (.o 42 .sp)]++nOs 50,[]⟩:PS).mk' [.l .sp y1])),(fun y1=>K (.exit 0) ((⟨nOs 6++[.one (.o 42 .sp)]++nOs 50,[]⟩:PS).mk' [.l .sp y1])))
noncomputable def eG.l0.g {γ:Type} (YK:HdK γ) (k:Nat) (K:dQ→St→Option γ):List Lf→Option γ
  | [.i c1,.l .sp v2,.l .sp c3,.i c4,.i v5]=>let q:=eG.l0.c YK K;eG.l0 q.1 q.2 c1 c3 c4 k v2 v5
  | _=>none
noncomputable def eG.C {γ:Type}:Ctx γ:=mkC (fun k=>mkE [(106,jC.m k),(107,iD.m k)] []) [(55,Tryz.f55)] [(55,mkA [49,56] [(0,[1,6,13,14,15])] [(0,[4,5,6])] [])] [⟨0,55,0,iC [(eG.l0.p,eG.l0.g)]⟩] []
theorem eG.l0.eq {γ:Type} (YK:HdK γ) (rl:Option Nat) (K:dQ→St→Option γ) (c1:Int) (c3:List P.S42) (c4:Int):∀ k:Nat,(fun (v2:List P.S42) (v5:Int)=>eG.C.lK 0 55 0 Tryz.f55 YK rl 0 k (eG.l0.p.mk' [.i c1,.l .sp v2,.l .sp c3,.i c4,.i v5]) K)=(fun (v2:List P.S42) (v5:Int)=>eG.l0.g YK k K [.i c1,.l .sp v2,.l .sp c3,.i c4,.i v5]):=fF (fun R k v2 v5=>eG.l0T (eG.l0.c YK K).1 (eG.l0.c YK K).2 c1 c3 c4 R k v2 v5) (by kernel_rfl) (fun k=>by kernel_rfl) (fun k=>by kernel_rfl)
theorem eG.fH {γ:Type}:(eG.C (γ:=γ)).Ok:=⟨(all_cons (fun k=>by kernel_rfl) all_nil),(all_cons (by kernel_rfl) all_nil),all_nil⟩
theorem eG.e0 {γ:Type}:iq (eG.C (γ:=γ)) ⟨0,55,0,iC [(eG.l0.p,eG.l0.g)]⟩:=eG.fH.kg Tryz.f55 [] (by kernel_rfl) (by kernel_rfl) (by kernel_rfl) (all_cons iJ all_nil) (all_cons (fun YK rl k ls K v hv=>(show eG.l0.g YK k K ls=some v→_ from fun hv=>by
  unfold eG.l0.g at hv;split at hv
  · exact (congrFun (congrFun (eG.l0.eq YK rl K _ _ _ k) _) _).trans hv
  · cases hv) hv) all_nil)
theorem eG.ok (k:Nat):jk Tryz.prog 55 (eG.m k).s:=okW eG.fH 0 Tryz.f55 k all_nil (fun k=>all_cons (jC.ok k) (all_cons (iD.ok k) (all_nil))) (all_cons ⟨Tryz.func55,by kernel_rfl⟩ all_nil) (all_cons eG.e0 all_nil) (by kernel_rfl) (by kernel_rfl) (fun a=>by kernel_rfl)
noncomputable def fM.m (k:Nat):Sm:=jm [.fm,(.int .i64)] [.own 42 .sp,.pl (.int .i64)] (fun a=>fM.f k a.1.f0 a.1.f1 a.1.f2 a.1.f3 a.2.1)
noncomputable def fM.C {γ:Type}:Ctx γ:=mkC (fun k=>mkE [(53,gJ.m k),(54,je.m k),(55,eG.m k)] []) [(19,Tryz.f19)] [(19,mkA [27] [] [] [])] [] []
theorem fM.fH {γ:Type}:(fM.C (γ:=γ)).Ok:=⟨(all_cons (fun k=>by kernel_rfl) all_nil),(all_cons (by kernel_rfl) all_nil),all_nil⟩
theorem fM.ok (k:Nat):jk Tryz.prog 19 (fM.m k).s:=okW fM.fH 0 Tryz.f19 k all_nil (fun k=>all_cons (gJ.ok k) (all_cons (je.ok k) (all_cons (eG.ok k) (all_nil)))) (all_cons ⟨Tryz.func19,by kernel_rfl⟩ all_nil) all_nil (by kernel_rfl) (by kernel_rfl) (fun a=>by kernel_rfl)
noncomputable def iR.m (k:Nat):Sm:=jm [(.sl 42 .sp)] [.pl .bool] (fun a=>iR.f k a.1)
noncomputable def iR.C {γ:Type}:Ctx γ:=mkC (fun k=>mkE [] []) [(182,Tryz.f182)] [(182,mkA [] [] [] [])] [] []
theorem iR.fH {γ:Type}:(iR.C (γ:=γ)).Ok:=⟨(all_cons (fun k=>by kernel_rfl) all_nil),(all_cons (by kernel_rfl) all_nil),all_nil⟩
theorem iR.ok (k:Nat):jk Tryz.prog 182 (iR.m k).s:=okW iR.fH 0 Tryz.f182 k all_nil (fun k=>all_nil) (all_cons ⟨Tryz.func182,by kernel_rfl⟩ all_nil) all_nil (by kernel_rfl) (by kernel_rfl) (fun a=>by kernel_rfl)
noncomputable def eY.m (k:Nat):Sm:=jm [.fm] [.pl .bool] (fun a=>eY.f k a.1.f0 a.1.f1 a.1.f2 a.1.f3)
noncomputable def eY.l0.p:PS:=⟨[.one (.s (.sl 42 .sp)),.one (.fn 182 [])]++nOs 5++[.one (.i .i64),.one (.i .i64)]++nOs 10,[.box 25 [.i .i64,.i .i64,.s (.sl 42 .sp),.s .gr]]⟩
noncomputable def eY.l0.c {γ:Type} (YK:HdK γ) (K:dQ→St→Option γ) (c4:Int) (c5:Int) (c6:List (List P.S42)) (c7:List P.S44):=((fun y1=>K .ret ((⟨nOs 4++[.one (.i .i64)]++nOs 14,[.box 25 [.i .i64,.i .i64,.s (.sl 42 .sp),.s .gr]]⟩:PS).mk' [.i y1,.i c4,.i c5,.l (.sl 42 .sp) c6,.l .gr c7])),(K (.exit 0) ((⟨nOs 19,[.box 25 [.i .i64,.i .i64,.s (.sl 42 .sp),.s .gr]]⟩:PS).mk' [.i c4,.i c5,.l (.sl 42 .sp) c6,.l .gr c7])))
noncomputable def eY.l0.g {γ:Type} (YK:HdK γ) (k:Nat) (K:dQ→St→Option γ):List Lf→Option γ
  | [.l (.sl 42 .sp) c1,.i c2,.i v3,.i c4,.i c5,.l (.sl 42 .sp) c6,.l .gr c7]=>let q:=eY.l0.c YK K c4 c5 c6 c7;eY.l0 q.1 q.2 c1 c2 k v3
  | _=>none
noncomputable def eY.C {γ:Type}:Ctx γ:=mkC (fun k=>mkE [(182,iR.m k)] []) [(179,Tryz.f179),(112,Tryz.f112),(150,Tryz.f150)] [(179,mkA [] [] [] []),(112,mkA [] [] [] []),(150,mkA [] [(0,[0,1,7,8])] [(0,[4])] [])] [⟨0,150,0,iC [(eY.l0.p,eY.l0.g)]⟩] []
theorem eY.l0.eq {γ:Type} (YK:HdK γ) (rl:Option Nat) (K:dQ→St→Option γ) (c1:List (List P.S42)) (c2:Int) (c4:Int) (c5:Int) (c6:List (List P.S42)) (c7:List P.S44):∀ k:Nat,(fun (v3:Int)=>eY.C.lK 0 150 0 Tryz.f150 YK rl 1 k (eY.l0.p.mk' [.l (.sl 42 .sp) c1,.i c2,.i v3,.i c4,.i c5,.l (.sl 42 .sp) c6,.l .gr c7]) K)=(fun (v3:Int)=>eY.l0.g YK k K [.l (.sl 42 .sp) c1,.i c2,.i v3,.i c4,.i c5,.l (.sl 42 .sp) c6,.l .gr c7]):=fF (fun R k v3=>eY.l0T (eY.l0.c YK K c4 c5 c6 c7).1 (eY.l0.c YK K c4 c5 c6 c7).2 c1 c2 R k v3) (by kernel_rfl) (fun k=>by kernel_rfl) (fun k=>by kernel_rfl)
theorem eY.fH {γ:Type}:(eY.C (γ:=γ)).Ok:=⟨(all_cons (fun k=>by kernel_rfl) (all_cons (fun k=>by kernel_rfl) (all_cons (fun k=>by kernel_rfl) all_nil))),(all_cons (by kernel_rfl) (all_cons (by kernel_rfl) (all_cons (by kernel_rfl) all_nil))),all_nil⟩
theorem eY.e0 {γ:Type}:iq (eY.C (γ:=γ)) ⟨0,150,0,iC [(eY.l0.p,eY.l0.g)]⟩:=eY.fH.kg Tryz.f150 [] (by kernel_rfl) (by kernel_rfl) (by kernel_rfl) (all_cons iJ all_nil) (all_cons (fun YK rl k ls K v hv=>(show eY.l0.g YK k K ls=some v→_ from fun hv=>by
  unfold eY.l0.g at hv;split at hv
  · exact (congrFun (eY.l0.eq YK rl K _ _ _ _ _ _ k) _).trans hv
  · cases hv) hv) all_nil)
theorem eY.ok (k:Nat):jk Tryz.prog 179 (eY.m k).s:=okW eY.fH 2 Tryz.f179 k all_nil (fun k=>all_cons (iR.ok k) (all_nil)) (all_cons ⟨Tryz.func179,by kernel_rfl⟩ (all_cons ⟨Tryz.func112,by kernel_rfl⟩ (all_cons ⟨Tryz.func150,by kernel_rfl⟩ all_nil))) (all_cons eY.e0 all_nil) (by kernel_rfl) (by kernel_rfl) (fun a=>by kernel_rfl)
noncomputable def jE.m (k:Nat):Sm:=jm [.fm,(.int .i64)] [.pl .bool] (fun a=>jE.f k a.1.f0 a.1.f1 a.1.f2 a.1.f3 a.2.1)
noncomputable def jE.C {γ:Type}:Ctx γ:=mkC (fun k=>mkE [(54,je.m k)] []) [(180,Tryz.f180)] [(180,mkA [] [] [] [])] [] []
theorem jE.fH {γ:Type}:(jE.C (γ:=γ)).Ok:=⟨(all_cons (fun k=>by kernel_rfl) all_nil),(all_cons (by kernel_rfl) all_nil),all_nil⟩
theorem jE.ok (k:Nat):jk Tryz.prog 180 (jE.m k).s:=okW jE.fH 0 Tryz.f180 k all_nil (fun k=>all_cons (je.ok k) (all_nil)) (all_cons ⟨Tryz.func180,by kernel_rfl⟩ all_nil) all_nil (by kernel_rfl) (by kernel_rfl) (fun a=>by kernel_rfl)
end Go.Proofs.YtcomnjodjijcmaaGreat.R
