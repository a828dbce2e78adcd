/- Lemmas for laws of chapter 7: what the functions that they reach compute. No condition of its own. -/
import Derived.Test.YtcomnjodjijcmaaGreatYD9
import Derived.Test.YtcomnjodjijcmaaGreatYD10
import Derived.Test.YtcomnjodjijcmaaGreatYD11
namespace Go.Proofs.YtcomnjodjijcmaaGreat.R
open M Go.RowKit Go.Proofs.YtcomnjodjijcmaaGreatW.dA Go.Proofs.YtcomnjodjijcmaaGreatW.dX Go.Proofs.YtcomnjodjijcmaaGreatW.eD
set_option linter.unusedVariables false
variable [Inhabited WT]
section
variable {γ:Type} (X0:Bool→Int→Int→(List (List P.S42))→(List P.S44)→Int→Int→(List (List P.S42))→(List P.S44)→Int→Int→(List (List P.S42))→(List P.S44)→Int→Int→(List (List P.S42))→(List P.S44)→(List P.S44)→(List P.S44)→Int→Int→(List (List P.S42))→(List P.S44)→Int→Int→(List (List P.S42))→(List P.S44)→Option γ) (X1:Int→Int→(List (List P.S42))→(List P.S44)→Int→Int→(List (List P.S42))→(List P.S44)→Int→Int→(List (List P.S42))→(List P.S44)→Int→Int→(List (List P.S42))→(List P.S44)→(List P.S44)→(List P.S44)→Int→Int→(List (List P.S42))→(List P.S44)→Int→Int→(List (List P.S42))→(List P.S44)→Option γ)
noncomputable def dD.l2 (k:Nat) (v1:Int) (v2:Int) (v3:List (List P.S42)) (v4:List P.S44) (v5:Int) (v6:Int) (v7:List (List P.S42)) (v8:List P.S44) (v9:Int) (v10:Int) (v11:List (List P.S42)) (v12:List P.S44) (v13:Int) (v14:Int) (v15:List (List P.S42)) (v16:List P.S44):Option γ:=((dB.f k 0 0 [] [(⟨1,[(⟨5,5⟩:P.S42)]⟩:P.S44)] 0 0 [] [(⟨2,[(⟨3,3⟩:P.S42)]⟩:P.S44)]).bind fun t12=>((dJ.f k 0 0 [] [(⟨1,[(⟨5,5⟩:P.S42)]⟩:P.S44)] 0 0 [] [(⟨2,[(⟨3,3⟩:P.S42)]⟩:P.S44)]).bind fun aa=>(if (decide (t12.2=51))=true then (if (decide (aa.2=0))=true then ((dh.f k aa.1.f0 aa.1.f1 aa.1.f2 aa.1.f3 0 0 [] [(⟨1,[(⟨5,5⟩:P.S42)]⟩:P.S44)]).bind fun ab=>(if ab=true then ((fu.f k).bind fun ac=>(X0 ac v1 v2 v3 v4 v5 v6 v7 v8 v9 v10 v11 v12 v13 v14 v15 v16 [(⟨1,[(⟨5,5⟩:P.S42)]⟩:P.S44)] [(⟨2,[(⟨3,3⟩:P.S42)]⟩:P.S44)] t12.1.f0 t12.1.f1 t12.1.f2 t12.1.f3 aa.1.f0 aa.1.f1 aa.1.f2 aa.1.f3)) else (X1 v1 v2 v3 v4 v5 v6 v7 v8 v9 v10 v11 v12 v13 v14 v15 v16 [(⟨1,[(⟨5,5⟩:P.S42)]⟩:P.S44)] [(⟨2,[(⟨3,3⟩:P.S42)]⟩:P.S44)] t12.1.f0 t12.1.f1 t12.1.f2 t12.1.f3 aa.1.f0 aa.1.f1 aa.1.f2 aa.1.f3))) else (X1 v1 v2 v3 v4 v5 v6 v7 v8 v9 v10 v11 v12 v13 v14 v15 v16 [(⟨1,[(⟨5,5⟩:P.S42)]⟩:P.S44)] [(⟨2,[(⟨3,3⟩:P.S42)]⟩:P.S44)] t12.1.f0 t12.1.f1 t12.1.f2 t12.1.f3 aa.1.f0 aa.1.f1 aa.1.f2 aa.1.f3)) else (X1 v1 v2 v3 v4 v5 v6 v7 v8 v9 v10 v11 v12 v13 v14 v15 v16 [(⟨1,[(⟨5,5⟩:P.S42)]⟩:P.S44)] [(⟨2,[(⟨3,3⟩:P.S42)]⟩:P.S44)] t12.1.f0 t12.1.f1 t12.1.f2 t12.1.f3 aa.1.f0 aa.1.f1 aa.1.f2 aa.1.f3))))
end
section
variable {γ:Type} (X0:Int→Int→(List (List P.S42))→(List P.S44)→Int→Int→(List (List P.S42))→(List P.S44)→Int→Int→(List (List P.S42))→(List P.S44)→Int→Int→(List (List P.S42))→(List P.S44)→Option γ) (X1:Bool→Int→Int→(List (List P.S42))→(List P.S44)→Int→Int→(List (List P.S42))→(List P.S44)→Int→Int→(List (List P.S42))→(List P.S44)→Int→Int→(List (List P.S42))→(List P.S44)→(List P.S44)→(List P.S44)→Int→Int→(List (List P.S42))→(List P.S44)→Int→Int→(List (List P.S42))→(List P.S44)→Option γ) (X2:Int→Int→(List (List P.S42))→(List P.S44)→Int→Int→(List (List P.S42))→(List P.S44)→Int→Int→(List (List P.S42))→(List P.S44)→Int→Int→(List (List P.S42))→(List P.S44)→(List P.S44)→(List P.S44)→Int→Int→(List (List P.S42))→(List P.S44)→Int→Int→(List (List P.S42))→(List P.S44)→Option γ)
noncomputable def dD.l1 (k:Nat) (v1:Bool) (v2:Int) (v3:Int) (v4:List (List P.S42)) (v5:List P.S44) (v6:Int) (v7:Int) (v8:List (List P.S42)) (v9:List P.S44):Option γ:=((dB.f k v2 v3 v4 v5 v6 v7 v8 v9).bind fun t9=>((dM.f k v2 v3 v4 v5 v6 v7 v8 v9).bind fun t10=>(if (!v1)=true then (if (!(decide (t9.2=51)))=true then (X0 v2 v3 v4 v5 v6 v7 v8 v9 t9.1.f0 t9.1.f1 t9.1.f2 t9.1.f3 t10.1.f0 t10.1.f1 t10.1.f2 t10.1.f3) else (if (!(decide (t10.2=51)))=true then (X0 v2 v3 v4 v5 v6 v7 v8 v9 t9.1.f0 t9.1.f1 t9.1.f2 t9.1.f3 t10.1.f0 t10.1.f1 t10.1.f2 t10.1.f3) else ((dh.f k t9.1.f0 t9.1.f1 t9.1.f2 t9.1.f3 0 0 [] []).bind fun t11=>(if (!t11)=true then (X0 v2 v3 v4 v5 v6 v7 v8 v9 t9.1.f0 t9.1.f1 t9.1.f2 t9.1.f3 t10.1.f0 t10.1.f1 t10.1.f2 t10.1.f3) else (dD.l2 X1 X2 k v2 v3 v4 v5 v6 v7 v8 v9 t9.1.f0 t9.1.f1 t9.1.f2 t9.1.f3 t10.1.f0 t10.1.f1 t10.1.f2 t10.1.f3))))) else (dD.l2 X1 X2 k v2 v3 v4 v5 v6 v7 v8 v9 t9.1.f0 t9.1.f1 t9.1.f2 t9.1.f3 t10.1.f0 t10.1.f1 t10.1.f2 t10.1.f3))))
end
section
variable {γ:Type} (X0:Int→Int→(List (List P.S42))→(List P.S44)→Int→Int→(List (List P.S42))→(List P.S44)→Option γ) (X1:Int→Int→(List (List P.S42))→(List P.S44)→Int→Int→(List (List P.S42))→(List P.S44)→Int→Int→(List (List P.S42))→(List P.S44)→Int→Int→(List (List P.S42))→(List P.S44)→Option γ) (X2:Bool→Int→Int→(List (List P.S42))→(List P.S44)→Int→Int→(List (List P.S42))→(List P.S44)→Int→Int→(List (List P.S42))→(List P.S44)→Int→Int→(List (List P.S42))→(List P.S44)→(List P.S44)→(List P.S44)→Int→Int→(List (List P.S42))→(List P.S44)→Int→Int→(List (List P.S42))→(List P.S44)→Option γ) (X3:Int→Int→(List (List P.S42))→(List P.S44)→Int→Int→(List (List P.S42))→(List P.S44)→Int→Int→(List (List P.S42))→(List P.S44)→Int→Int→(List (List P.S42))→(List P.S44)→(List P.S44)→(List P.S44)→Int→Int→(List (List P.S42))→(List P.S44)→Int→Int→(List (List P.S42))→(List P.S44)→Option γ)
noncomputable def dD.l0 (k:Nat) (v1:Int) (v2:Int) (v3:Int) (v4:List (List P.S42)) (v5:List P.S44) (v6:Int) (v7:Int) (v8:List (List P.S42)) (v9:List P.S44):Option γ:=((gy.f k v2 v3 v4 v5 (Int.tmod (wq v1) 300)).bind fun t5=>((gy.f k v6 v7 v8 v9 (Int.tmod (wq v1) 300)).bind fun t6=>((ny.f k v2 v3 v4 v5 v6 v7 v8 v9).bind fun t7=>(if (decide (t5.2=0))=true then (if (decide (t6.2=0))=true then (if (decide ((t5.1.length:Int)>0))=true then (if (decide ((t6.1.length:Int)>0))=true then ((fO.f k t5.1 t6.1).bind fun t8=>(if (!t8)=true then (if t7.1=true then (X0 v2 v3 v4 v5 v6 v7 v8 v9) else (if (!(decide (t7.2=0)))=true then (if (!(decide (t7.2=51)))=true then (X0 v2 v3 v4 v5 v6 v7 v8 v9) else (dD.l1 X1 X2 X3 k t7.1 v2 v3 v4 v5 v6 v7 v8 v9)) else (dD.l1 X1 X2 X3 k t7.1 v2 v3 v4 v5 v6 v7 v8 v9))) else (dD.l1 X1 X2 X3 k t7.1 v2 v3 v4 v5 v6 v7 v8 v9))) else (dD.l1 X1 X2 X3 k t7.1 v2 v3 v4 v5 v6 v7 v8 v9)) else (dD.l1 X1 X2 X3 k t7.1 v2 v3 v4 v5 v6 v7 v8 v9)) else (dD.l1 X1 X2 X3 k t7.1 v2 v3 v4 v5 v6 v7 v8 v9)) else (dD.l1 X1 X2 X3 k t7.1 v2 v3 v4 v5 v6 v7 v8 v9)))))
end
noncomputable def iy.f (k:Nat) (a0:Int) (a1:Int):Option (Int):=(if (decide (a1<1))=true then (some 0) else (if a1=0 then none else (if a1=0 then none else (some (Int.tmod (wq ((Int.tmod a0 a1)+a1)) a1)))))
section
variable {γ:Type} (X0:(List (List P.S42))→Option γ) (c1:List (List P.S42)) (c2:Int)
noncomputable def cO.l0T (R:Int→(List (List P.S42))→Option γ) (k:Nat) (v3:Int) (v14:List (List P.S42)):Option γ:=(if (decide (v3<c2))=true then (if 0≤v3 then (if v3<(c1.length:Int) then ((gZ.f k (gL c1 v3)).bind fun t3=>(if v14.length+1≤5864062014805 then (R (wq (v3+1)) (v14++[t3])) else none)) else none) else none) else (X0 v14))
noncomputable def cO.l0:Nat→Int→(List (List P.S42))→Option γ
  | 0=>(fun _ _=>none)
  | k+1=>(fun v3 v14=>(cO.l0T X0 c1 c2 (cO.l0 k) k v3 v14))
end
section
variable {γ:Type} (X0:(List P.S44)→Option γ) (c1:List P.S44) (c2:Int)
noncomputable def cO.l1T (R:Int→(List P.S44)→Option γ) (k:Nat) (v3:Int) (v15:List P.S44):Option γ:=(if (decide (v3<c2))=true then (if 0≤v3 then (if v3<(c1.length:Int) then ((gZ.f k (gG c1 v3).f1).bind fun t7=>(if v15.length+1≤4398046511104 then (R (wq (v3+1)) (v15++[(⟨(gG c1 v3).f0,t7⟩:P.S44)])) else none)) else none) else none) else (X0 v15))
noncomputable def cO.l1:Nat→Int→(List P.S44)→Option γ
  | 0=>(fun _ _=>none)
  | k+1=>(fun v3 v15=>(cO.l1T X0 c1 c2 (cO.l1 k) k v3 v15))
end
section
variable {γ:Type} (X0:(List (List P.S42))→Option γ) (c1:Int) (c3:Int) (c11:Nat)
noncomputable def cO.l2T (R:Int→(List (List P.S42))→Option γ) (k:Nat) (v4:Int) (v13:List (List P.S42)):Option γ:=(if (decide (v4<c3))=true then (if (Int.tmod v4 8)<0 then none else (if (decide ((IntKind.wrap .u8 (BitVec.ofInt 8 (Int.fdiv c1 (2 ^ (min (Int.toNat (Int.tmod v4 8)) 8))) &&& BitVec.ofInt 8 1).toNat)=0))=true then (if 0≤v4 then (if v4<(c11:Int) then (R (wq (v4+1)) (v13.set (Int.toNat v4) [])) else none) else none) else (R (wq (v4+1)) v13))) else (X0 v13))
noncomputable def cO.l2:Nat→Int→(List (List P.S42))→Option γ
  | 0=>(fun _ _=>none)
  | k+1=>(fun v4 v13=>(cO.l2T X0 c1 c3 c11 (cO.l2 k) k v4 v13))
end
section
variable {γ:Type} (X0:(List P.S44)→Option γ) (c1:Int) (c2:Int) (c3:Nat) (c4:Int) (c11:Int) (c13:Nat)
noncomputable def cO.l3T (R:Int→(List P.S44)→Option γ) (k:Nat) (v5:Int) (v15:List P.S44):Option γ:=(if (decide (v5<c4))=true then (if 0≤v5 then (if v5<(c3:Int) then (if (decide (c11>0))=true then ((iy.f k (gG v15 v5).f0 c11).bind fun t12=>(if (Int.tmod t12 8)<0 then none else (if (decide ((IntKind.wrap .u8 (BitVec.ofInt 8 (Int.fdiv c1 (2 ^ (min (Int.toNat (Int.tmod t12 8)) 8))) &&& BitVec.ofInt 8 1).toNat)=0))=true then (if 0≤v5 then (if v5<(c13:Int) then (R (wq (v5+1)) (v15.set (Int.toNat v5) (⟨(gG v15 v5).f0,[]⟩:P.S44))) else none) else none) else (if (decide ((gG v15 v5).f0=(wq c2)))=true then (if 0≤v5 then (if v5<(c13:Int) then (R (wq (v5+1)) (v15.set (Int.toNat v5) (⟨(gG v15 v5).f0,[]⟩:P.S44))) else none) else none) else (R (wq (v5+1)) v15))))) else (if (decide ((IntKind.wrap .u8 (BitVec.ofInt 8 (Int.fdiv c1 1) &&& BitVec.ofInt 8 1).toNat)=0))=true then (if 0≤v5 then (if v5<(c13:Int) then (R (wq (v5+1)) (v15.set (Int.toNat v5) (⟨(gG v15 v5).f0,[]⟩:P.S44))) else none) else none) else (if (decide ((gG v15 v5).f0=(wq c2)))=true then (if 0≤v5 then (if v5<(c13:Int) then (R (wq (v5+1)) (v15.set (Int.toNat v5) (⟨(gG v15 v5).f0,[]⟩:P.S44))) else none) else none) else (R (wq (v5+1)) v15)))) else none) else none) else (X0 v15))
noncomputable def cO.l3:Nat→Int→(List P.S44)→Option γ
  | 0=>(fun _ _=>none)
  | k+1=>(fun v5 v15=>(cO.l3T X0 c1 c2 c3 c4 c11 c13 (cO.l3 k) k v5 v15))
end
noncomputable def cO.f (k:Nat) (ab:Int) (aa:Int) (ac:List (List P.S42)) (af:List P.S44) (a1:Int) (a2:Int):Option (P.S25 × Bool):=(cO.l0 (fun y4=>(cO.l1 (fun y8=>(cO.l2 (fun y9=>(cO.l3 (fun y13=>((dI.f k ab aa y9 y13).bind fun ah=>(some ((⟨ab,aa,y9,y13⟩:P.S25),(decide (ah=0)))))) a1 a2 y8.length (y8.length:Int) aa y8.length k 0 y8)) a1 (y4.length:Int) y4.length k 0 y4)) af (af.length:Int) k 0 [])) ac (ac.length:Int) k 0 [])
noncomputable def iC.f (k:Nat) (a0:List P.S42):Option (Bool):=(some (decide ((a0.length:Int)>0)))
section
variable {γ:Type} (X0:Int→Option γ) (X1:Option γ) (c1:List (List P.S42)) (c2:Int)
noncomputable def eF.l0T (R:Int→Option γ) (k:Nat) (v3:Int):Option γ:=(if (decide (v3<c2))=true then (if 0≤v3 then (if v3<(c1.length:Int) then ((iC.f k (gL c1 v3)).bind fun t3=>(if t3=true then (X0 v3) else (R (wq (v3+1))))) else none) else none) else X1)
noncomputable def eF.l0:Nat→Int→Option γ
  | 0=>(fun _=>none)
  | k+1=>(fun v3=>(eF.l0T X0 X1 c1 c2 (eF.l0 k) k v3))
end
noncomputable def eF.f (k:Nat) (ab:Int) (ac:Int) (aa:List (List P.S42)) (af:List P.S44):Option (Bool):=(eF.l0 (fun y4=>(some (decide (y4≥0)))) (some false) aa (aa.length:Int) k 0)
section
variable {γ:Type} (X0:Int→Bool→Option γ) (X1:Bool→Option γ) (c2:Int) (c4:Int) (c5:Int) (c6:List (List P.S42)) (c7:List P.S44) (c8:Int) (c9:Int) (c10:List (List P.S42)) (c11:List P.S44)
noncomputable def dV.l0T (R:Bool→Int→Option γ) (k:Nat) (v1:Bool) (v3:Int):Option γ:=(if (decide (v3<c2))=true then ((gN.f k c4 c5 c6 c7 v3).bind fun t8=>(if (!(decide (t8.2=0)))=true then (X0 t8.2 v1) else (if (decide ((t8.1.length:Int)=0))=true then (R v1 (wq (v3+1))) else ((gN.f k c8 c9 c10 c11 v3).bind fun t9=>(if (!(decide (t9.2=0)))=true then (X0 t9.2 v1) else (if v1=true then ((fO.f k t8.1 t9.1).bind fun t10=>(R t10 (wq (v3+1)))) else (R false (wq (v3+1))))))))) else (X1 v1))
noncomputable def dV.l0:Nat→Bool→Int→Option γ
  | 0=>(fun _ _=>none)
  | k+1=>(fun v1 v3=>(dV.l0T X0 X1 c2 c4 c5 c6 c7 c8 c9 c10 c11 (dV.l0 k) k v1 v3))
end
noncomputable def dV.f (k:Nat) (ac:Int) (af:Int) (ah:List (List P.S42)) (ai:List P.S44) (ab:Int) (aa:Int) (aj:List (List P.S42)) (ak:List P.S44):Option (Bool × Int):=((dU.f k ac af ah ai ab aa aj ak).bind fun t1=>(if (!(decide (t1.2.2=0)))=true then (some (false,t1.2.2)) else (if (decide (aa>0))=true then (if aa=0 then none else (dV.l0 (fun am aq=>(some (false,am))) (fun y13=>(some (y13,0))) t1.1 ac af ah ai ab aa aj ak k (decide ((wq (ab*(wq (Int.tdiv t1.1 aa))))=t1.2.1)) 0)) else (dV.l0 (fun ao au=>(some (false,ao))) (fun ap=>(some (ap,0))) t1.1 ac af ah ai ab aa aj ak k false 0))))
section
variable {γ:Type} (X0:(List Int)→Option γ) (c2:List P.S44) (c3:Int)
noncomputable def eu.l0T (R:(List Int)→Int→Option γ) (k:Nat) (v1:List Int) (v4:Int):Option γ:=(if (decide (v4<c3))=true then (if 0≤v4 then (if v4<(c2.length:Int) then (if v1.length+1≤17592186044416 then (R (v1++[(gG c2 v4).f0]) (wq (v4+1))) else none) else none) else none) else (X0 v1))
noncomputable def eu.l0:Nat→(List Int)→Int→Option γ
  | 0=>(fun _ _=>none)
  | k+1=>(fun v1 v4=>(eu.l0T X0 c2 c3 (eu.l0 k) k v1 v4))
end
noncomputable def eu.f (k:Nat) (ac:Int) (af:Int) (ah:List (List P.S42)) (ab:List P.S44) (ai:Int) (aj:Int) (ak:List (List P.S42)) (aa:List P.S44):Option (List Int):=((eU.f k ab).bind fun t1=>(if t1.length+aa.length≤4398046511104 then (eu.l0 (fun y2=>(if (decide (y2.length≤8796093022208))=true then (if (decide ((kG y2).length≤8796093022208))=true then (some (jc (kG y2))) else none) else none)) (t1++aa) ((t1++aa).length:Int) k [] 0) else none))
section
variable {γ:Type} (X0:Option γ) (X1:Option γ) (c1:List Int) (c2:Int) (c4:Int) (c5:Int) (c6:List (List P.S42)) (c7:List P.S44) (c8:Int) (c9:Int) (c10:List (List P.S42)) (c11:List P.S44)
noncomputable def dY.l0T (R:Int→Option γ) (k:Nat) (v3:Int):Option γ:=(if (decide (v3<c2))=true then (if 0≤v3 then (if v3<(c1.length:Int) then ((gy.f k c4 c5 c6 c7 (gI c1 v3)).bind fun t10=>((gy.f k c8 c9 c10 c11 (gI c1 v3)).bind fun t11=>(if (decide ((t10.1.length:Int)=0))=true then (R (wq (v3+1))) else ((fO.f k t10.1 t11.1).bind fun t12=>(if (!t12)=true then X0 else (R (wq (v3+1)))))))) else none) else none) else X1)
noncomputable def dY.l0:Nat→Int→Option γ
  | 0=>(fun _=>none)
  | k+1=>(fun v3=>(dY.l0T X0 X1 c1 c2 c4 c5 c6 c7 c8 c9 c10 c11 (dY.l0 k) k v3))
end
noncomputable def dY.f (k:Nat) (aa:Int) (ab:Int) (ac:List (List P.S42)) (af:List P.S44) (ah:Int) (ai:Int) (aj:List (List P.S42)) (ak:List P.S44):Option (Bool × Int):=((eF.f k aa ab ac af).bind fun t1=>(if t1=true then ((dV.f k aa ab ac af ah ai aj ak).bind fun t2=>(if (!(decide (t2.2=0)))=true then (some (false,t2.2)) else (if (!t2.1)=true then (some (false,t2.2)) else ((eu.f k ah ai aj ak aa ab ac af).bind fun t3=>(dY.l0 (some (false,0)) (some (true,0)) t3 (t3.length:Int) aa ab ac af ah ai aj ak k 0))))) else ((eu.f k ah ai aj ak aa ab ac af).bind fun am=>(dY.l0 (some (false,0)) (some (true,0)) am (am.length:Int) aa ab ac af ah ai aj ak k 0))))
noncomputable def fU.f (k:Nat) (aa:Int) (ab:Int) (ac:List (List P.S42)) (af:List P.S44) (ai:Int) (aj:Int) (ak:List (List P.S42)) (am:List P.S44) (a2:Int) (a3:Int):Option (Bool):=((dx.f k aa ab ac af).bind fun t1=>(if (!t1)=true then ((fu.f k).bind fun t2=>(some t2)) else ((dx.f k ai aj ak am).bind fun t3=>(if (!t3)=true then ((fu.f k).bind fun t4=>(some t4)) else ((cO.f k aa ab ac af a2 a3).bind fun t5=>(if (!t5.2)=true then ((fu.f k).bind fun t6=>(some t6)) else ((dB.f k t5.1.f0 t5.1.f1 t5.1.f2 t5.1.f3 aa ab ac af).bind fun t7=>((dM.f k t5.1.f0 t5.1.f1 t5.1.f2 t5.1.f3 aa ab ac af).bind fun t8=>((dJ.f k t5.1.f0 t5.1.f1 t5.1.f2 t5.1.f3 aa ab ac af).bind fun t9=>(if (!(decide (t7.2=0)))=true then (some false) else (if (!(decide (t8.2=0)))=true then (some false) else (if (!(decide (t9.2=0)))=true then (some false) else ((dL.f k aa ab ac af).bind fun t10=>((dh.f k t7.1.f0 t7.1.f1 t7.1.f2 t7.1.f3 t10.f0 t10.f1 t10.f2 t10.f3).bind fun t11=>(if (!t11)=true then (some false) else ((dL.f k t5.1.f0 t5.1.f1 t5.1.f2 t5.1.f3).bind fun t12=>((dh.f k t8.1.f0 t8.1.f1 t8.1.f2 t8.1.f3 t12.f0 t12.f1 t12.f2 t12.f3).bind fun ap=>(if (!ap)=true then (some false) else ((dh.f k t9.1.f0 t9.1.f1 t9.1.f2 t9.1.f3 0 0 [] []).bind fun aq=>(if (!aq)=true then (some false) else ((dM.f k aa ab ac af ai aj ak am).bind fun ah=>(if (!(decide (ah.2=0)))=true then ((fu.f k).bind fun t16=>(some t16)) else ((dY.f k ah.1.f0 ah.1.f1 ah.1.f2 ah.1.f3 aa ab ac af).bind fun t17=>((dY.f k ah.1.f0 ah.1.f1 ah.1.f2 ah.1.f3 ai aj ak am).bind fun ao=>(if t17.1=true then (if ao.1=true then (if (decide (t17.2=0))=true then (if (decide (ao.2=0))=true then ((fu.f k).bind fun au=>(some au)) else (some false)) else (some false)) else (some false)) else (some false))))))))))))))))))))))))))
noncomputable def fH.f (k:Nat) (a0:List P.S42) (a1:Bool):Option (Int):=(if a1=true then (if 0<(a0.length:Int) then (some (wq ((gS a0 0).f1+1))) else none) else (if 0<(a0.length:Int) then (some (gS a0 0).f0) else none))
noncomputable def gU.f (k:Nat) (a0:List P.S42) (a1:Bool) (a2:Int):Option ((List P.S42) × Bool):=(if (decide ((a0.length:Int)>0))=true then (if a1=true then (if 0<(a0.length:Int) then (if (decide ((wq ((gS a0 0).f1+1))=a2))=true then (if 1≤(a0.length:Int) then (some ((a0.drop 1),false)) else none) else (if (decide ((a0.length:Int)>0))=true then (if (!a1)=true then (if 0<(a0.length:Int) then (if (decide ((gS a0 0).f0=a2))=true then (some (a0,true)) else (some (a0,a1))) else none) else (some (a0,a1))) else (some (a0,a1)))) else none) else (if (decide ((a0.length:Int)>0))=true then (if (!a1)=true then (if 0<(a0.length:Int) then (if (decide ((gS a0 0).f0=a2))=true then (some (a0,true)) else (some (a0,a1))) else none) else (some (a0,a1))) else (some (a0,a1)))) else (if (decide ((a0.length:Int)>0))=true then (if (!a1)=true then (if 0<(a0.length:Int) then (if (decide ((gS a0 0).f0=a2))=true then (some (a0,true)) else (some (a0,a1))) else none) else (some (a0,a1))) else (some (a0,a1))))
noncomputable def lZ.f (k:Nat) (a0:Bool) (a1:Bool):Option (Bool):=(if a0=true then (some true) else (some a1))
section
variable {γ:Type} (Y0:Int→Bool→Bool→(List P.S42)→Bool→Int→(List P.S42)→(List P.S42)→((List P.S42)→Bool→Int→(List P.S42)→(List P.S42)→Option γ)→Option γ) (X0:(List P.S42)→Bool→Int→(List P.S42)→(List P.S42)→Option γ)
noncomputable def fI.l0T (R:Bool→Bool→(List P.S42)→Bool→Int→(List P.S42)→(List P.S42)→Option γ) (k:Nat) (v1:Bool) (v2:Bool) (v3:List P.S42) (v4:Bool) (v5:Int) (v6:List P.S42) (v7:List P.S42):Option γ:=(if (decide ((wq ((v6.length:Int)+(v7.length:Int)))>0))=true then (if (decide ((v6.length:Int)=0))=true then ((fH.f k v7 v2).bind fun t57=>((gU.f k v6 v1 t57).bind fun t58=>((gU.f k v7 v2 t57).bind fun t59=>(Y0 t57 t58.2 t59.2 v3 v4 v5 t58.1 t59.1 (fun z61 z62 z63 z64 z65=>(R t58.2 t59.2 z61 z62 z63 z64 z65)))))) else (if (decide ((v7.length:Int)=0))=true then ((fH.f k v6 v1).bind fun t66=>((gU.f k v6 v1 t66).bind fun t67=>((gU.f k v7 v2 t66).bind fun t68=>(Y0 t66 t67.2 t68.2 v3 v4 v5 t67.1 t68.1 (fun z70 z71 z72 z73 z74=>(R t67.2 t68.2 z70 z71 z72 z73 z74)))))) else ((fH.f k v6 v1).bind fun t75=>((fH.f k v7 v2).bind fun t76=>((gU.f k v6 v1 (mn t75 t76)).bind fun t77=>((gU.f k v7 v2 (mn t75 t76)).bind fun t78=>(Y0 (mn t75 t76) t77.2 t78.2 v3 v4 v5 t77.1 t78.1 (fun z80 aa z82 z83 z84=>(R t77.2 t78.2 z80 aa z82 z83 z84))))))))) else (X0 v3 v4 v5 v6 v7))
noncomputable def fI.l0:Nat→Bool→Bool→(List P.S42)→Bool→Int→(List P.S42)→(List P.S42)→Option γ
  | 0=>(fun _ _ _ _ _ _ _=>none)
  | k+1=>(fun v1 v2 v3 v4 v5 v6 v7=>(fI.l0T Y0 X0 (fI.l0 k) k v1 v2 v3 v4 v5 v6 v7))
end
noncomputable def nR.f (k:Nat) (a0:Bool) (a1:Bool):Option (Bool):=(if a0=true then (some a1) else (some false))
section
variable {γ:Type} (Y0:Int→Bool→Bool→(List P.S42)→Bool→Int→(List P.S42)→(List P.S42)→((List P.S42)→Bool→Int→(List P.S42)→(List P.S42)→Option γ)→Option γ) (X0:(List P.S42)→Bool→Int→(List P.S42)→(List P.S42)→Option γ)
noncomputable def gV.l0T (R:Bool→Bool→(List P.S42)→Bool→Int→(List P.S42)→(List P.S42)→Option γ) (k:Nat) (v1:Bool) (v2:Bool) (v3:List P.S42) (v4:Bool) (v5:Int) (v6:List P.S42) (v7:List P.S42):Option γ:=(if (decide ((wq ((v6.length:Int)+(v7.length:Int)))>0))=true then (if (decide ((v6.length:Int)=0))=true then ((fH.f k v7 v2).bind fun t57=>((gU.f k v6 v1 t57).bind fun t58=>((gU.f k v7 v2 t57).bind fun t59=>(Y0 t57 t58.2 t59.2 v3 v4 v5 t58.1 t59.1 (fun z61 z62 z63 z64 z65=>(R t58.2 t59.2 z61 z62 z63 z64 z65)))))) else (if (decide ((v7.length:Int)=0))=true then ((fH.f k v6 v1).bind fun t66=>((gU.f k v6 v1 t66).bind fun t67=>((gU.f k v7 v2 t66).bind fun t68=>(Y0 t66 t67.2 t68.2 v3 v4 v5 t67.1 t68.1 (fun z70 z71 z72 z73 z74=>(R t67.2 t68.2 z70 z71 z72 z73 z74)))))) else ((fH.f k v6 v1).bind fun t75=>((fH.f k v7 v2).bind fun t76=>((gU.f k v6 v1 (mn t75 t76)).bind fun t77=>((gU.f k v7 v2 (mn t75 t76)).bind fun t78=>(Y0 (mn t75 t76) t77.2 t78.2 v3 v4 v5 t77.1 t78.1 (fun z80 aa z82 z83 z84=>(R t77.2 t78.2 z80 aa z82 z83 z84))))))))) else (X0 v3 v4 v5 v6 v7))
noncomputable def gV.l0:Nat→Bool→Bool→(List P.S42)→Bool→Int→(List P.S42)→(List P.S42)→Option γ
  | 0=>(fun _ _ _ _ _ _ _=>none)
  | k+1=>(fun v1 v2 v3 v4 v5 v6 v7=>(gV.l0T Y0 X0 (gV.l0 k) k v1 v2 v3 v4 v5 v6 v7))
end
noncomputable def mI.f (k:Nat) (a0:Bool) (a1:Bool):Option (Bool):=(if a0=true then (some (!a1)) else (some false))
section
variable {γ:Type} (Y0:Int→Bool→Bool→(List P.S42)→Bool→Int→(List P.S42)→(List P.S42)→((List P.S42)→Bool→Int→(List P.S42)→(List P.S42)→Option γ)→Option γ) (X0:(List P.S42)→Bool→Int→(List P.S42)→(List P.S42)→Option γ)
noncomputable def gq.l0T (R:Bool→Bool→(List P.S42)→Bool→Int→(List P.S42)→(List P.S42)→Option γ) (k:Nat) (v1:Bool) (v2:Bool) (v3:List P.S42) (v4:Bool) (v5:Int) (v6:List P.S42) (v7:List P.S42):Option γ:=(if (decide ((wq ((v6.length:Int)+(v7.length:Int)))>0))=true then (if (decide ((v6.length:Int)=0))=true then ((fH.f k v7 v2).bind fun t57=>((gU.f k v6 v1 t57).bind fun t58=>((gU.f k v7 v2 t57).bind fun t59=>(Y0 t57 t58.2 t59.2 v3 v4 v5 t58.1 t59.1 (fun z61 z62 z63 z64 z65=>(R t58.2 t59.2 z61 z62 z63 z64 z65)))))) else (if (decide ((v7.length:Int)=0))=true then ((fH.f k v6 v1).bind fun t66=>((gU.f k v6 v1 t66).bind fun t67=>((gU.f k v7 v2 t66).bind fun t68=>(Y0 t66 t67.2 t68.2 v3 v4 v5 t67.1 t68.1 (fun z70 z71 z72 z73 z74=>(R t67.2 t68.2 z70 z71 z72 z73 z74)))))) else ((fH.f k v6 v1).bind fun t75=>((fH.f k v7 v2).bind fun t76=>((gU.f k v6 v1 (mn t75 t76)).bind fun t77=>((gU.f k v7 v2 (mn t75 t76)).bind fun t78=>(Y0 (mn t75 t76) t77.2 t78.2 v3 v4 v5 t77.1 t78.1 (fun z80 aa z82 z83 z84=>(R t77.2 t78.2 z80 aa z82 z83 z84))))))))) else (X0 v3 v4 v5 v6 v7))
noncomputable def gq.l0:Nat→Bool→Bool→(List P.S42)→Bool→Int→(List P.S42)→(List P.S42)→Option γ
  | 0=>(fun _ _ _ _ _ _ _=>none)
  | k+1=>(fun v1 v2 v3 v4 v5 v6 v7=>(gq.l0T Y0 X0 (gq.l0 k) k v1 v2 v3 v4 v5 v6 v7))
end
noncomputable def kL.f (k:Nat) (aa:Int) (ab:List P.S42) (ac:Int) (af:List P.S42):Option (Bool):=(if (decide (aa=ac))=true then ((fO.f k ab af).bind fun t1=>(some t1)) else (some false))
section
variable {γ:Type} (X0:Option γ) (X1:Option γ) (c1:List (List P.S42)) (c2:List (List P.S42)) (c3:Int)
noncomputable def eX.l0T (R:Int→Option γ) (k:Nat) (v4:Int):Option γ:=(if (decide (v4<c3))=true then (if 0≤v4 then (if v4<(c2.length:Int) then (if 0≤v4 then (if v4<(c1.length:Int) then ((fO.f k (gL c2 v4) (gL c1 v4)).bind fun t3=>(if (!t3)=true then X0 else (R (wq (v4+1))))) else none) else none) else none) else none) else X1)
noncomputable def eX.l0:Nat→Int→Option γ
  | 0=>(fun _=>none)
  | k+1=>(fun v4=>(eX.l0T X0 X1 c1 c2 c3 (eX.l0 k) k v4))
end
section
variable {γ:Type} (X0:Option γ) (X1:Option γ) (c1:List P.S44) (c2:List P.S44) (c3:Int)
noncomputable def eX.l1T (R:Int→Option γ) (k:Nat) (v4:Int):Option γ:=(if (decide (v4<c3))=true then (if 0≤v4 then (if v4<(c2.length:Int) then (if 0≤v4 then (if v4<(c1.length:Int) then ((kL.f k (gG c2 v4).f0 (gG c2 v4).f1 (gG c1 v4).f0 (gG c1 v4).f1).bind fun t6=>(if (!t6)=true then X0 else (R (wq (v4+1))))) else none) else none) else none) else none) else X1)
noncomputable def eX.l1:Nat→Int→Option γ
  | 0=>(fun _=>none)
  | k+1=>(fun v4=>(eX.l1T X0 X1 c1 c2 c3 (eX.l1 k) k v4))
end
section
variable {γ:Type} (X0:(List Int)→Option γ) (c2:List P.S44) (c3:Int)
end
section
variable {γ:Type} (X0:Option γ) (X1:Option γ) (c1:List Int) (c2:Int) (c8:Int) (c9:Int) (c10:List (List P.S42)) (c11:List P.S44) (c12:Int) (c13:Int) (c14:List (List P.S42)) (c15:List P.S44) (c16:Int) (c17:Int) (c18:List (List P.S42)) (c19:List P.S44) (c20:Int) (c21:Int) (c22:List (List P.S42)) (c23:List P.S44) (c24:Int) (c25:Int) (c26:List (List P.S42)) (c27:List P.S44)
end
end Go.Proofs.YtcomnjodjijcmaaGreat.R
namespace Go.Proofs.YtcomnjodjijcmaaGreat.R
open M Go.RowKit Go.Proofs.YtcomnjodjijcmaaGreatW.dA Go.Proofs.YtcomnjodjijcmaaGreatW.dX Go.Proofs.YtcomnjodjijcmaaGreatW.eD
set_option linter.unusedVariables false
noncomputable def dS.m (k:Nat):Sm:=jd [.fm] [.pl (.int .i64)] (fun a=>dS.f k a.1.f0 a.1.f1 a.1.f2 a.1.f3)
noncomputable def dS.l0.p:PS:=⟨[nO,.one (.bp 0 0),nO,.one (.i .i64)]++nOs 5++[.one (.s (.sl 42 .sp)),.one (.i .i64),.one (.i .i64)]++nOs 22,[.box 25 [.i .i64,.i .i64,.s (.sl 42 .sp),.s .gr]]⟩
noncomputable def dS.l0.c {γ:Type} (YK:HdK γ) (K:dO→St→Option γ) (c5:Int) (c6:Int) (c7:List (List P.S42)) (c8:List P.S44):=(fun y1=>K (.exit 0) ((⟨[nO,.one (.bp 0 0),nO,.one (.i .i64)]++nOs 30,[.box 25 [.i .i64,.i .i64,.s (.sl 42 .sp),.s .gr]]⟩:PS).mk' [.i y1,.i c5,.i c6,.l (.sl 42 .sp) c7,.l .gr c8]))
noncomputable def dS.l0.g {γ:Type} (YK:HdK γ) (k:Nat) (K:dO→St→Option γ):List Lf→Option γ
  | [.i v1,.l (.sl 42 .sp) c2,.i c3,.i v4,.i c5,.i c6,.l (.sl 42 .sp) c7,.l .gr c8]=>dS.l0 (dS.l0.c YK K c5 c6 c7 c8) c2 c3 k v1 v4
  | _=>none
noncomputable def dS.l1.p:PS:=⟨nOs 3++[.one (.i .i64)]++nOs 17++[.one (.s .gr),.one (.i .i64),.one (.i .i64)]++nOs 10,[.box 25 [.i .i64,.i .i64,.s (.sl 42 .sp),.s .gr]]⟩
noncomputable def dS.l1.c {γ:Type} (YK:HdK γ) (K:dO→St→Option γ) (c5:Int) (c6:Int) (c7:List (List P.S42)) (c8:List P.S44):=(fun y1=>K (.exit 2) ((⟨nOs 3++[.one (.i .i64)]++nOs 30,[.box 25 [.i .i64,.i .i64,.s (.sl 42 .sp),.s .gr]]⟩:PS).mk' [.i y1,.i c5,.i c6,.l (.sl 42 .sp) c7,.l .gr c8]))
noncomputable def dS.l1.g {γ:Type} (YK:HdK γ) (k:Nat) (K:dO→St→Option γ):List Lf→Option γ
  | [.i v1,.l .gr c2,.i c3,.i v4,.i c5,.i c6,.l (.sl 42 .sp) c7,.l .gr c8]=>dS.l1 (dS.l1.c YK K c5 c6 c7 c8) c2 c3 k v1 v4
  | _=>none
noncomputable def dS.C {γ:Type}:Ctx γ:=mkC (fun k=>mkE [] []) [(108,Tryz.f108)] [(108,mkA [] [(0,[1,3,9,10,11]),(2,[3,21,22,23])] [(0,[1,3]),(2,[3])] [])] [⟨0,108,0,iB [(dS.l0.p,dS.l0.g)]⟩,⟨0,108,2,iB [(dS.l1.p,dS.l1.g)]⟩] []
theorem dS.l0.eq {γ:Type} (YK:HdK γ) (rl:Option Nat) (K:dO→St→Option γ) (c2:List (List P.S42)) (c3:Int) (c5:Int) (c6:Int) (c7:List (List P.S42)) (c8:List P.S44):∀ k:Nat,(fun (v1:Int) (v4:Int)=>dS.C.lK 0 108 0 Tryz.f108 YK rl 1 k (dS.l0.p.mk' [.i v1,.l (.sl 42 .sp) c2,.i c3,.i v4,.i c5,.i c6,.l (.sl 42 .sp) c7,.l .gr c8]) K)=(fun (v1:Int) (v4:Int)=>dS.l0.g YK k K [.i v1,.l (.sl 42 .sp) c2,.i c3,.i v4,.i c5,.i c6,.l (.sl 42 .sp) c7,.l .gr c8]):=fE (fun R k v1 v4=>dS.l0T (dS.l0.c YK K c5 c6 c7 c8) c2 c3 R k v1 v4) (by kernel_rfl) (fun k=>by kernel_rfl) (fun k=>by kernel_rfl)
theorem dS.l1.eq {γ:Type} (YK:HdK γ) (rl:Option Nat) (K:dO→St→Option γ) (c2:List P.S44) (c3:Int) (c5:Int) (c6:Int) (c7:List (List P.S42)) (c8:List P.S44):∀ k:Nat,(fun (v1:Int) (v4:Int)=>dS.C.lK 0 108 2 Tryz.f108 YK rl 1 k (dS.l1.p.mk' [.i v1,.l .gr c2,.i c3,.i v4,.i c5,.i c6,.l (.sl 42 .sp) c7,.l .gr c8]) K)=(fun (v1:Int) (v4:Int)=>dS.l1.g YK k K [.i v1,.l .gr c2,.i c3,.i v4,.i c5,.i c6,.l (.sl 42 .sp) c7,.l .gr c8]):=fE (fun R k v1 v4=>dS.l1T (dS.l1.c YK K c5 c6 c7 c8) c2 c3 R k v1 v4) (by kernel_rfl) (fun k=>by kernel_rfl) (fun k=>by kernel_rfl)
theorem dS.fJ {γ:Type}:(dS.C (γ:=γ)).Ok:=⟨(all_cons (fun k=>by kernel_rfl) all_nil),(all_cons (by kernel_rfl) all_nil),all_nil⟩
theorem dS.e0 {γ:Type}:iw (dS.C (γ:=γ)) ⟨0,108,0,iB [(dS.l0.p,dS.l0.g)]⟩:=dS.fJ.jY Tryz.f108 [] (by kernel_rfl) (by kernel_rfl) (by kernel_rfl) (all_cons iN (all_cons iN all_nil)) (all_cons (fun YK rl k ls K v hv=>(show dS.l0.g YK k K ls=some v→_ from fun hv=>by
  unfold dS.l0.g at hv;split at hv
  · exact (congrFun (congrFun (dS.l0.eq YK rl K _ _ _ _ _ _ k) _) _).trans hv
  · cases hv) hv) all_nil)
theorem dS.e1 {γ:Type}:iw (dS.C (γ:=γ)) ⟨0,108,2,iB [(dS.l1.p,dS.l1.g)]⟩:=dS.fJ.jY Tryz.f108 [] (by kernel_rfl) (by kernel_rfl) (by kernel_rfl) (all_cons iN (all_cons iN all_nil)) (all_cons (fun YK rl k ls K v hv=>(show dS.l1.g YK k K ls=some v→_ from fun hv=>by
  unfold dS.l1.g at hv;split at hv
  · exact (congrFun (congrFun (dS.l1.eq YK rl K _ _ _ _ _ _ k) _) _).trans hv
  · cases hv) hv) all_nil)
theorem dS.ok (k:Nat):jg Tryz.prog 108 (dS.m k).s:=okW dS.fJ 0 Tryz.f108 k all_nil (fun k=>all_nil) (all_cons ⟨Tryz.func108,by kernel_rfl⟩ all_nil) (all_cons dS.e0 (all_cons dS.e1 all_nil)) (by kernel_rfl) (by kernel_rfl) (fun a=>by kernel_rfl)
noncomputable def gH.m (k:Nat):Sm:=jd [(.int .i64)] [.pl .bool] (fun a=>gH.f k a.1)
noncomputable def gH.C {γ:Type}:Ctx γ:=mkC (fun k=>mkE [] []) [(53,Tryz.f53)] [(53,mkA [] [] [] [])] [] []
theorem gH.fJ {γ:Type}:(gH.C (γ:=γ)).Ok:=⟨(all_cons (fun k=>by kernel_rfl) all_nil),(all_cons (by kernel_rfl) all_nil),all_nil⟩
theorem gH.ok (k:Nat):jg Tryz.prog 53 (gH.m k).s:=okW gH.fJ 0 Tryz.f53 k all_nil (fun k=>all_nil) (all_cons ⟨Tryz.func53,by kernel_rfl⟩ all_nil) all_nil (by kernel_rfl) (by kernel_rfl) (fun a=>by kernel_rfl)
noncomputable def iA.m (k:Nat):Sm:=jd [(.int .i64)] [.pl .bool] (fun a=>iA.f k a.1)
noncomputable def iA.C {γ:Type}:Ctx γ:=mkC (fun k=>mkE [] []) [(107,Tryz.f107)] [(107,mkA [] [] [] [])] [] []
theorem iA.fJ {γ:Type}:(iA.C (γ:=γ)).Ok:=⟨(all_cons (fun k=>by kernel_rfl) all_nil),(all_cons (by kernel_rfl) all_nil),all_nil⟩
theorem iA.ok (k:Nat):jg Tryz.prog 107 (iA.m k).s:=okW iA.fJ 0 Tryz.f107 k all_nil (fun k=>all_nil) (all_cons ⟨Tryz.func107,by kernel_rfl⟩ all_nil) all_nil (by kernel_rfl) (by kernel_rfl) (fun a=>by kernel_rfl)
noncomputable def d9.m (k:Nat):Sm:=jd [(.sl 42 .sp)] [.pl .bool] (fun a=>d9.f k a.1)
noncomputable def d9.l0.p:PS:=⟨[.one (.s .sp)]++nOs 4++[.one (.s .sp),.one (.i .i64),.one (.i .i64)]++nOs 38,[]⟩
noncomputable def d9.l0.c {γ:Type} (YK:HdK γ) (K:dO→St→Option γ)  := ((K .ret ((⟨[nO,nO,.one (.lb false)]++nOs 43,[]⟩:PS).mk' [])),(K (.exit 0) ((⟨nOs 46,[]⟩:PS).mk' [])))
noncomputable def d9.l0.g {γ:Type} (YK:HdK γ) (k:Nat) (K:dO→St→Option γ):List Lf→Option γ
  | [.l .sp c1,.l .sp c2,.i c3,.i v4]=>let q:=d9.l0.c YK K;d9.l0 q.1 q.2 c1 c2 c3 k v4
  | _=>none
noncomputable def d9.C {γ:Type}:Ctx γ:=mkC (fun k=>mkE [(107,iA.m k)] []) [(146,Tryz.f146)] [(146,mkA [] [(0,[0,5,6,7])] [(0,[2])] [])] [⟨0,146,0,iB [(d9.l0.p,d9.l0.g)]⟩] []
theorem d9.l0.eq {γ:Type} (YK:HdK γ) (rl:Option Nat) (K:dO→St→Option γ) (c1:List P.S42) (c2:List P.S42) (c3:Int):∀ k:Nat,(fun (v4:Int)=>d9.C.lK 0 146 0 Tryz.f146 YK rl 0 k (d9.l0.p.mk' [.l .sp c1,.l .sp c2,.i c3,.i v4]) K)=(fun (v4:Int)=>d9.l0.g YK k K [.l .sp c1,.l .sp c2,.i c3,.i v4]):=fE (fun R k v4=>d9.l0T (d9.l0.c YK K).1 (d9.l0.c YK K).2 c1 c2 c3 R k v4) (by kernel_rfl) (fun k=>by kernel_rfl) (fun k=>by kernel_rfl)
theorem d9.fJ {γ:Type}:(d9.C (γ:=γ)).Ok:=⟨(all_cons (fun k=>by kernel_rfl) all_nil),(all_cons (by kernel_rfl) all_nil),all_nil⟩
theorem d9.e0 {γ:Type}:iw (d9.C (γ:=γ)) ⟨0,146,0,iB [(d9.l0.p,d9.l0.g)]⟩:=d9.fJ.jY Tryz.f146 [] (by kernel_rfl) (by kernel_rfl) (by kernel_rfl) (all_cons iN all_nil) (all_cons (fun YK rl k ls K v hv=>(show d9.l0.g YK k K ls=some v→_ from fun hv=>by
  unfold d9.l0.g at hv;split at hv
  · exact (congrFun (d9.l0.eq YK rl K _ _ _ k) _).trans hv
  · cases hv) hv) all_nil)
theorem d9.ok (k:Nat):jg Tryz.prog 146 (d9.m k).s:=okW d9.fJ 0 Tryz.f146 k all_nil (fun k=>all_cons (iA.ok k) (all_nil)) (all_cons ⟨Tryz.func146,by kernel_rfl⟩ all_nil) (all_cons d9.e0 all_nil) (by kernel_rfl) (by kernel_rfl) (fun a=>by kernel_rfl)
noncomputable def dF.m (k:Nat):Sm:=jd [.fm] [.pl .bool] (fun a=>dF.f k a.1.f0 a.1.f1 a.1.f2 a.1.f3)
noncomputable def dF.l1.p:PS:=⟨[nO,.one (.bp 0 0)]++nOs 31++[.one (.s (.sl 42 .sp)),.one (.i .i64),.one (.i .i64)]++nOs 42,[.box 25 [.i .i64,.i .i64,.s (.sl 42 .sp),.s .gr]]⟩
noncomputable def dF.l1.c {γ:Type} (YK:HdK γ) (K:dO→St→Option γ) (c4:Int) (c5:Int) (c6:List (List P.S42)) (c7:List P.S44):=((K .ret ((⟨[nO,.one (.bp 0 0),.one (.lb false)]++nOs 75,[.box 25 [.i .i64,.i .i64,.s (.sl 42 .sp),.s .gr]]⟩:PS).mk' [.i c4,.i c5,.l (.sl 42 .sp) c6,.l .gr c7])),(K (.exit 0) ((⟨[nO,.one (.bp 0 0)]++nOs 76,[.box 25 [.i .i64,.i .i64,.s (.sl 42 .sp),.s .gr]]⟩:PS).mk' [.i c4,.i c5,.l (.sl 42 .sp) c6,.l .gr c7])))
noncomputable def dF.l1.g {γ:Type} (YK:HdK γ) (k:Nat) (K:dO→St→Option γ):List Lf→Option γ
  | [.l (.sl 42 .sp) c1,.i c2,.i v3,.i c4,.i c5,.l (.sl 42 .sp) c6,.l .gr c7]=>let q:=dF.l1.c YK K c4 c5 c6 c7;dF.l1 q.1 q.2 c1 c2 k v3
  | _=>none
noncomputable def dF.l2.p:PS:=⟨[nO,.one (.bp 0 0)]++nOs 42++[.one (.s .gr),.one (.i .i64),.one (.i .i64)]++nOs 31,[.box 25 [.i .i64,.i .i64,.s (.sl 42 .sp),.s .gr]]⟩
noncomputable def dF.l2.c {γ:Type} (YK:HdK γ) (K:dO→St→Option γ) (c4:Int) (c5:Int) (c6:List (List P.S42)) (c7:List P.S44):=((K .ret ((⟨[nO,nO,.one (.lb false)]++nOs 75,[.box 25 [.i .i64,.i .i64,.s (.sl 42 .sp),.s .gr]]⟩:PS).mk' [.i c4,.i c5,.l (.sl 42 .sp) c6,.l .gr c7])),(K (.exit 2) ((⟨nOs 78,[.box 25 [.i .i64,.i .i64,.s (.sl 42 .sp),.s .gr]]⟩:PS).mk' [.i c4,.i c5,.l (.sl 42 .sp) c6,.l .gr c7])))
noncomputable def dF.l2.g {γ:Type} (YK:HdK γ) (k:Nat) (K:dO→St→Option γ):List Lf→Option γ
  | [.l .gr c1,.i c2,.i v3,.i c4,.i c5,.l (.sl 42 .sp) c6,.l .gr c7]=>let q:=dF.l2.c YK K c4 c5 c6 c7;dF.l2 q.1 q.2 c1 c2 c7 k v3
  | _=>none
noncomputable def dF.l0.p:PS:=⟨[nO,.one (.bp 0 0)]++nOs 76,[.box 25 [.i .i64,.i .i64,.s (.sl 42 .sp),.s .gr]]⟩
noncomputable def dF.l0.c {γ:Type} (YK:HdK γ) (K:dO→St→Option γ)  := ((fun y1 y2 y3 y4=>K .ret ((⟨[nO,nO,.one (.lb false)]++nOs 75,[.box 25 [.i .i64,.i .i64,.s (.sl 42 .sp),.s .gr]]⟩:PS).mk' [.i y1,.i y2,.l (.sl 42 .sp) y3,.l .gr y4])),(fun y1 y2 y3 y4=>K .ret ((⟨[nO,nO,.one (.lb true)]++nOs 75,[.box 25 [.i .i64,.i .i64,.s (.sl 42 .sp),.s .gr]]⟩:PS).mk' [.i y1,.i y2,.l (.sl 42 .sp) y3,.l .gr y4])))
noncomputable def dF.l0.g {γ:Type} (YK:HdK γ) (k:Nat) (K:dO→St→Option γ):List Lf→Option γ
  | [.i v1,.i v2,.l (.sl 42 .sp) v3,.l .gr v4]=>let q:=dF.l0.c YK K;dF.l0 q.1 q.2 k v1 v2 v3 v4
  | _=>none
noncomputable def dF.C {γ:Type}:Ctx γ:=mkC (fun k=>mkE [(53,gH.m k),(146,d9.m k)] []) [(109,Tryz.f109)] [(109,mkA [] [(0,[1,33,34,35]),(2,[1,44,45,46]),(1000010,[1])] [(0,[1,2]),(2,[2]),(1000010,[2])] [])] [⟨0,109,0,iB [(dF.l1.p,dF.l1.g)]⟩,⟨0,109,2,iB [(dF.l2.p,dF.l2.g)]⟩,⟨0,109,1000010,iB [(dF.l0.p,dF.l0.g)]⟩] []
theorem dF.l1.eq {γ:Type} (YK:HdK γ) (rl:Option Nat) (K:dO→St→Option γ) (c1:List (List P.S42)) (c2:Int) (c4:Int) (c5:Int) (c6:List (List P.S42)) (c7:List P.S44):∀ k:Nat,(fun (v3:Int)=>dF.C.lK 0 109 0 Tryz.f109 YK rl 1 k (dF.l1.p.mk' [.l (.sl 42 .sp) c1,.i c2,.i v3,.i c4,.i c5,.l (.sl 42 .sp) c6,.l .gr c7]) K)=(fun (v3:Int)=>dF.l1.g YK k K [.l (.sl 42 .sp) c1,.i c2,.i v3,.i c4,.i c5,.l (.sl 42 .sp) c6,.l .gr c7]):=fE (fun R k v3=>dF.l1T (dF.l1.c YK K c4 c5 c6 c7).1 (dF.l1.c YK K c4 c5 c6 c7).2 c1 c2 R k v3) (by kernel_rfl) (fun k=>by kernel_rfl) (fun k=>by kernel_rfl)
theorem dF.l2.eq {γ:Type} (YK:HdK γ) (rl:Option Nat) (K:dO→St→Option γ) (c1:List P.S44) (c2:Int) (c4:Int) (c5:Int) (c6:List (List P.S42)) (c7:List P.S44):∀ k:Nat,(fun (v3:Int)=>dF.C.lK 0 109 2 Tryz.f109 YK rl 1 k (dF.l2.p.mk' [.l .gr c1,.i c2,.i v3,.i c4,.i c5,.l (.sl 42 .sp) c6,.l .gr c7]) K)=(fun (v3:Int)=>dF.l2.g YK k K [.l .gr c1,.i c2,.i v3,.i c4,.i c5,.l (.sl 42 .sp) c6,.l .gr c7]):=fE (fun R k v3=>dF.l2T (dF.l2.c YK K c4 c5 c6 c7).1 (dF.l2.c YK K c4 c5 c6 c7).2 c1 c2 c7 R k v3) (by kernel_rfl) (fun k=>by kernel_rfl) (fun k=>by kernel_rfl)
theorem dF.l0.eq {γ:Type} (YK:HdK γ) (rl:Option Nat) (K:dO→St→Option γ) (k:Nat) (v1:Int) (v2:Int) (v3:List (List P.S42)) (v4:List P.S44):dF.C.lK 0 109 1000010 Tryz.f109 YK rl 1 k (dF.l0.p.mk' [.i v1,.i v2,.l (.sl 42 .sp) v3,.l .gr v4]) K=dF.l0.g YK k K [.i v1,.i v2,.l (.sl 42 .sp) v3,.l .gr v4]:=by kernel_rfl
theorem dF.fJ {γ:Type}:(dF.C (γ:=γ)).Ok:=⟨(all_cons (fun k=>by kernel_rfl) all_nil),(all_cons (by kernel_rfl) all_nil),all_nil⟩
theorem dF.e0 {γ:Type}:iw (dF.C (γ:=γ)) ⟨0,109,0,iB [(dF.l1.p,dF.l1.g)]⟩:=dF.fJ.jY Tryz.f109 [] (by kernel_rfl) (by kernel_rfl) (by kernel_rfl) (all_cons iN (all_cons iN (all_cons iN all_nil))) (all_cons (fun YK rl k ls K v hv=>(show dF.l1.g YK k K ls=some v→_ from fun hv=>by
  unfold dF.l1.g at hv;split at hv
  · exact (congrFun (dF.l1.eq YK rl K _ _ _ _ _ _ k) _).trans hv
  · cases hv) hv) all_nil)
theorem dF.e1 {γ:Type}:iw (dF.C (γ:=γ)) ⟨0,109,2,iB [(dF.l2.p,dF.l2.g)]⟩:=dF.fJ.jY Tryz.f109 [] (by kernel_rfl) (by kernel_rfl) (by kernel_rfl) (all_cons iN (all_cons iN (all_cons iN all_nil))) (all_cons (fun YK rl k ls K v hv=>(show dF.l2.g YK k K ls=some v→_ from fun hv=>by
  unfold dF.l2.g at hv;split at hv
  · exact (congrFun (dF.l2.eq YK rl K _ _ _ _ _ _ k) _).trans hv
  · cases hv) hv) all_nil)
theorem dF.e2 {γ:Type}:iw (dF.C (γ:=γ)) ⟨0,109,1000010,iB [(dF.l0.p,dF.l0.g)]⟩:=dF.fJ.jY Tryz.f109 [0,2] (by kernel_rfl) (by kernel_rfl) (by kernel_rfl) (all_cons (fun _=>dF.e0) (all_cons (fun _=>dF.e1) (all_cons iN all_nil))) (all_cons (fun YK rl k ls K v hv=>(show dF.l0.g YK k K ls=some v→_ from fun hv=>by
  unfold dF.l0.g at hv;split at hv
  · exact (dF.l0.eq YK rl K k _ _ _ _).trans hv
  · cases hv) hv) all_nil)
theorem dF.ok (k:Nat):jg Tryz.prog 109 (dF.m k).s:=okW dF.fJ 0 Tryz.f109 k all_nil (fun k=>all_cons (gH.ok k) (all_cons (d9.ok k) (all_nil))) (all_cons ⟨Tryz.func109,by kernel_rfl⟩ all_nil) (all_cons dF.e0 (all_cons dF.e1 (all_cons dF.e2 all_nil))) (by kernel_rfl) (by kernel_rfl) (fun a=>by kernel_rfl)
noncomputable def dK.m (k:Nat):Sm:=jd [.fm] [.pl .bool] (fun a=>dK.f k a.1.f0 a.1.f1 a.1.f2 a.1.f3)
noncomputable def dK.l0.p:PS:=⟨[nO,.one (.bp 0 0),nO,.one (.o 37 (.sl 42 .sp))]++nOs 7++[.one (.s (.sl 42 .sp)),.one (.i .i64),.one (.i .i64)]++nOs 48,[.box 25 [.i .i64,.i .i64,.s (.sl 42 .sp),.s .gr]]⟩
noncomputable def dK.l0.c {γ:Type} (YK:HdK γ) (K:dO→St→Option γ) (c5:Int) (c6:Int) (c7:List (List P.S42)) (c8:List P.S44):=(fun y1=>K (.exit 0) ((⟨[nO,.one (.bp 0 0),nO,.one (.o 37 (.sl 42 .sp))]++nOs 58,[.box 25 [.i .i64,.i .i64,.s (.sl 42 .sp),.s .gr]]⟩:PS).mk' [.l (.sl 42 .sp) y1,.i c5,.i c6,.l (.sl 42 .sp) c7,.l .gr c8]))
noncomputable def dK.l0.g {γ:Type} (YK:HdK γ) (k:Nat) (K:dO→St→Option γ):List Lf→Option γ
  | [.l (.sl 42 .sp) v1,.l (.sl 42 .sp) c2,.i c3,.i v4,.i c5,.i c6,.l (.sl 42 .sp) c7,.l .gr c8]=>dK.l0 (dK.l0.c YK K c5 c6 c7 c8) c2 c3 k v1 v4
  | _=>none
noncomputable def dK.l1.p:PS:=⟨[nO,.one (.bp 0 0),nO,.one (.o 37 (.sl 42 .sp))]++nOs 21++[.one (.s (.sl 42 .sp)),.one (.i .i64),.one (.i .i64)]++nOs 34,[.box 25 [.i .i64,.i .i64,.s (.sl 42 .sp),.s .gr]]⟩
noncomputable def dK.l1.c {γ:Type} (YK:HdK γ) (K:dO→St→Option γ) (c5:Int) (c6:Int) (c7:List (List P.S42)) (c8:List P.S44):=((K .ret ((⟨[nO,nO,.one (.lb false)]++nOs 59,[.box 25 [.i .i64,.i .i64,.s (.sl 42 .sp),.s .gr]]⟩:PS).mk' [.i c5,.i c6,.l (.sl 42 .sp) c7,.l .gr c8])),(K (.exit 2) ((⟨nOs 62,[.box 25 [.i .i64,.i .i64,.s (.sl 42 .sp),.s .gr]]⟩:PS).mk' [.i c5,.i c6,.l (.sl 42 .sp) c7,.l .gr c8])))
noncomputable def dK.l1.g {γ:Type} (YK:HdK γ) (k:Nat) (K:dO→St→Option γ):List Lf→Option γ
  | [.l (.sl 42 .sp) c1,.l (.sl 42 .sp) c2,.i c3,.i v4,.i c5,.i c6,.l (.sl 42 .sp) c7,.l .gr c8]=>let q:=dK.l1.c YK K c5 c6 c7 c8;dK.l1 q.1 q.2 c1 c2 c3 c5 k v4
  | _=>none
noncomputable def dK.C {γ:Type}:Ctx γ:=mkC (fun k=>mkE [] []) [(110,Tryz.f110)] [(110,mkA [20] [(0,[1,3,11,12,13]),(2,[1,3,25,26,27])] [(0,[1,3]),(2,[2])] [])] [⟨0,110,0,iB [(dK.l0.p,dK.l0.g)]⟩,⟨0,110,2,iB [(dK.l1.p,dK.l1.g)]⟩] []
theorem dK.l0.eq {γ:Type} (YK:HdK γ) (rl:Option Nat) (K:dO→St→Option γ) (c2:List (List P.S42)) (c3:Int) (c5:Int) (c6:Int) (c7:List (List P.S42)) (c8:List P.S44):∀ k:Nat,(fun (v1:List (List P.S42)) (v4:Int)=>dK.C.lK 0 110 0 Tryz.f110 YK rl 1 k (dK.l0.p.mk' [.l (.sl 42 .sp) v1,.l (.sl 42 .sp) c2,.i c3,.i v4,.i c5,.i c6,.l (.sl 42 .sp) c7,.l .gr c8]) K)=(fun (v1:List (List P.S42)) (v4:Int)=>dK.l0.g YK k K [.l (.sl 42 .sp) v1,.l (.sl 42 .sp) c2,.i c3,.i v4,.i c5,.i c6,.l (.sl 42 .sp) c7,.l .gr c8]):=fE (fun R k v1 v4=>dK.l0T (dK.l0.c YK K c5 c6 c7 c8) c2 c3 R k v1 v4) (by kernel_rfl) (fun k=>by kernel_rfl) (fun k=>by kernel_rfl)
theorem dK.l1.eq {γ:Type} (YK:HdK γ) (rl:Option Nat) (K:dO→St→Option γ) (c1:List (List P.S42)) (c2:List (List P.S42)) (c3:Int) (c5:Int) (c6:Int) (c7:List (List P.S42)) (c8:List P.S44):∀ k:Nat,(fun (v4:Int)=>dK.C.lK 0 110 2 Tryz.f110 YK rl 1 k (dK.l1.p.mk' [.l (.sl 42 .sp) c1,.l (.sl 42 .sp) c2,.i c3,.i v4,.i c5,.i c6,.l (.sl 42 .sp) c7,.l .gr c8]) K)=(fun (v4:Int)=>dK.l1.g YK k K [.l (.sl 42 .sp) c1,.l (.sl 42 .sp) c2,.i c3,.i v4,.i c5,.i c6,.l (.sl 42 .sp) c7,.l .gr c8]):=fE (fun R k v4=>dK.l1T (dK.l1.c YK K c5 c6 c7 c8).1 (dK.l1.c YK K c5 c6 c7 c8).2 c1 c2 c3 c5 R k v4) (by kernel_rfl) (fun k=>by kernel_rfl) (fun k=>by kernel_rfl)
theorem dK.fJ {γ:Type}:(dK.C (γ:=γ)).Ok:=⟨(all_cons (fun k=>by kernel_rfl) all_nil),(all_cons (by kernel_rfl) all_nil),all_nil⟩
theorem dK.e0 {γ:Type}:iw (dK.C (γ:=γ)) ⟨0,110,0,iB [(dK.l0.p,dK.l0.g)]⟩:=dK.fJ.jY Tryz.f110 [] (by kernel_rfl) (by kernel_rfl) (by kernel_rfl) (all_cons iN (all_cons iN all_nil)) (all_cons (fun YK rl k ls K v hv=>(show dK.l0.g YK k K ls=some v→_ from fun hv=>by
  unfold dK.l0.g at hv;split at hv
  · exact (congrFun (congrFun (dK.l0.eq YK rl K _ _ _ _ _ _ k) _) _).trans hv
  · cases hv) hv) all_nil)
theorem dK.e1 {γ:Type}:iw (dK.C (γ:=γ)) ⟨0,110,2,iB [(dK.l1.p,dK.l1.g)]⟩:=dK.fJ.jY Tryz.f110 [] (by kernel_rfl) (by kernel_rfl) (by kernel_rfl) (all_cons iN (all_cons iN all_nil)) (all_cons (fun YK rl k ls K v hv=>(show dK.l1.g YK k K ls=some v→_ from fun hv=>by
  unfold dK.l1.g at hv;split at hv
  · exact (congrFun (dK.l1.eq YK rl K _ _ _ _ _ _ _ k) _).trans hv
  · cases hv) hv) all_nil)
theorem dK.ok (k:Nat):jg Tryz.prog 110 (dK.m k).s:=okW dK.fJ 0 Tryz.f110 k all_nil (fun k=>all_nil) (all_cons ⟨Tryz.func110,by kernel_rfl⟩ all_nil) (all_cons dK.e0 (all_cons dK.e1 all_nil)) (by kernel_rfl) (by kernel_rfl) (fun a=>by kernel_rfl)
noncomputable def gK.m (k:Nat):Sm:=jd [(.int .i64),(.int .i64)] [.pl (.int .i64),.pl (.int .i64),.pl (.int .i64)] (fun a=>gK.f k a.1 a.2.1)
noncomputable def gK.C {γ:Type}:Ctx γ:=mkC (fun k=>mkE [] []) [(70,Tryz.f70)] [(70,mkA [] [] [] [])] [] []
theorem gK.fJ {γ:Type}:(gK.C (γ:=γ)).Ok:=⟨(all_cons (fun k=>by kernel_rfl) all_nil),(all_cons (by kernel_rfl) all_nil),all_nil⟩
theorem gK.ok (k:Nat):jg Tryz.prog 70 (gK.m k).s:=okW gK.fJ 0 Tryz.f70 k all_nil (fun k=>all_nil) (all_cons ⟨Tryz.func70,by kernel_rfl⟩ all_nil) all_nil (by kernel_rfl) (by kernel_rfl) (fun a=>by kernel_rfl)
noncomputable def cmp_isNaN_int.m (k:Nat):Sm:=jd [(.int .i64)] [.pl .bool] (fun a=>cmp_isNaN_int.f k a.1)
noncomputable def cmp_isNaN_int.C {γ:Type}:Ctx γ:=mkC (fun k=>mkE [] []) [(172,Tryz.f172)] [(172,mkA [] [] [] [])] [] []
theorem cmp_isNaN_int.fJ {γ:Type}:(cmp_isNaN_int.C (γ:=γ)).Ok:=⟨(all_cons (fun k=>by kernel_rfl) all_nil),(all_cons (by kernel_rfl) all_nil),all_nil⟩
theorem cmp_isNaN_int.ok (k:Nat):jg Tryz.prog 172 (cmp_isNaN_int.m k).s:=okW cmp_isNaN_int.fJ 0 Tryz.f172 k all_nil (fun k=>all_nil) (all_cons ⟨Tryz.func172,by kernel_rfl⟩ all_nil) all_nil (by kernel_rfl) (by kernel_rfl) (fun a=>by kernel_rfl)
noncomputable def cmp_Compare_int.m (k:Nat):Sm:=jd [(.int .i64),(.int .i64)] [.pl (.int .i64)] (fun a=>cmp_Compare_int.f k a.1 a.2.1)
noncomputable def cmp_Compare_int.C {γ:Type}:Ctx γ:=mkC (fun k=>mkE [(172,cmp_isNaN_int.m k)] []) [(142,Tryz.f142)] [(142,mkA [] [] [] [])] [] []
theorem cmp_Compare_int.fJ {γ:Type}:(cmp_Compare_int.C (γ:=γ)).Ok:=⟨(all_cons (fun k=>by kernel_rfl) all_nil),(all_cons (by kernel_rfl) all_nil),all_nil⟩
theorem cmp_Compare_int.ok (k:Nat):jg Tryz.prog 142 (cmp_Compare_int.m k).s:=okW cmp_Compare_int.fJ 0 Tryz.f142 k all_nil (fun k=>all_cons (cmp_isNaN_int.ok k) (all_nil)) (all_cons ⟨Tryz.func142,by kernel_rfl⟩ all_nil) all_nil (by kernel_rfl) (by kernel_rfl) (fun a=>by kernel_rfl)
noncomputable def iY.m (k:Nat):Sm:=jd [.gr,(.int .i64)] [.pl (.int .i64)] (fun a=>iY.f k a.1.f0 a.1.f1 a.2.1)
noncomputable def iY.C {γ:Type}:Ctx γ:=mkC (fun k=>mkE [(142,cmp_Compare_int.m k)] []) [(141,Tryz.f141)] [(141,mkA [] [] [] [])] [] []
theorem iY.fJ {γ:Type}:(iY.C (γ:=γ)).Ok:=⟨(all_cons (fun k=>by kernel_rfl) all_nil),(all_cons (by kernel_rfl) all_nil),all_nil⟩
theorem iY.ok (k:Nat):jg Tryz.prog 141 (iY.m k).s:=okW iY.fJ 0 Tryz.f141 k all_nil (fun k=>all_cons (cmp_Compare_int.ok k) (all_nil)) (all_cons ⟨Tryz.func141,by kernel_rfl⟩ all_nil) all_nil (by kernel_rfl) (by kernel_rfl) (fun a=>by kernel_rfl)
noncomputable def eZ.m (k:Nat):Sm:=jd [.fm,(.int .i64)] [.pl (.int .i64),.pl .bool] (fun a=>eZ.f k a.1.f0 a.1.f1 a.1.f2 a.1.f3 a.2.1)
noncomputable def eZ.l0.p:PS:=⟨[.one (.s .gr),.one (.i .i64),.one (.fn 141 [])]++nOs 5++[.one (.i .i64),.one (.i .i64),.one (.i .i64)]++nOs 38,[.box 25 [.i .i64,.i .i64,.s (.sl 42 .sp),.s .gr]]⟩
noncomputable def eZ.l0.c {γ:Type} (YK:HdK γ) (K:dO→St→Option γ) (c1:List P.S44) (c2:Int) (c3:Int) (c6:Int) (c7:Int) (c8:List (List P.S42)) (c9:List P.S44):=(fun y1=>K (.exit 0) ((⟨[.one (.s .gr),.one (.i .i64),.one (.fn 141 [])]++nOs 5++[.one (.i .i64),.one (.i .i64)]++nOs 39,[.box 25 [.i .i64,.i .i64,.s (.sl 42 .sp),.s .gr]]⟩:PS).mk' [.l .gr c1,.i c2,.i c3,.i y1,.i c6,.i c7,.l (.sl 42 .sp) c8,.l .gr c9]))
noncomputable def eZ.l0.g {γ:Type} (YK:HdK γ) (k:Nat) (K:dO→St→Option γ):List Lf→Option γ
  | [.l .gr c1,.i c2,.i c3,.i v4,.i v5,.i c6,.i c7,.l (.sl 42 .sp) c8,.l .gr c9]=>eZ.l0 (eZ.l0.c YK K c1 c2 c3 c6 c7 c8 c9) c1 c2 k v4 v5
  | _=>none
noncomputable def eZ.C {γ:Type}:Ctx γ:=mkC (fun k=>mkE [(141,iY.m k)] []) [(104,Tryz.f104),(140,Tryz.f140)] [(104,mkA [] [] [] []),(140,mkA [] [(0,[0,1,2,8,9,10])] [(0,[0,1,2,8,9])] [])] [⟨0,140,0,iB [(eZ.l0.p,eZ.l0.g)]⟩] []
theorem eZ.l0.eq {γ:Type} (YK:HdK γ) (rl:Option Nat) (K:dO→St→Option γ) (c1:List P.S44) (c2:Int) (c3:Int) (c6:Int) (c7:Int) (c8:List (List P.S42)) (c9:List P.S44):∀ k:Nat,(fun (v4:Int) (v5:Int)=>eZ.C.lK 0 140 0 Tryz.f140 YK rl 1 k (eZ.l0.p.mk' [.l .gr c1,.i c2,.i c3,.i v4,.i v5,.i c6,.i c7,.l (.sl 42 .sp) c8,.l .gr c9]) K)=(fun (v4:Int) (v5:Int)=>eZ.l0.g YK k K [.l .gr c1,.i c2,.i c3,.i v4,.i v5,.i c6,.i c7,.l (.sl 42 .sp) c8,.l .gr c9]):=fE (fun R k v4 v5=>eZ.l0T (eZ.l0.c YK K c1 c2 c3 c6 c7 c8 c9) c1 c2 R k v4 v5) (by kernel_rfl) (fun k=>by kernel_rfl) (fun k=>by kernel_rfl)
theorem eZ.fJ {γ:Type}:(eZ.C (γ:=γ)).Ok:=⟨(all_cons (fun k=>by kernel_rfl) (all_cons (fun k=>by kernel_rfl) all_nil)),(all_cons (by kernel_rfl) (all_cons (by kernel_rfl) all_nil)),all_nil⟩
theorem eZ.e0 {γ:Type}:iw (eZ.C (γ:=γ)) ⟨0,140,0,iB [(eZ.l0.p,eZ.l0.g)]⟩:=eZ.fJ.jY Tryz.f140 [] (by kernel_rfl) (by kernel_rfl) (by kernel_rfl) (all_cons iN all_nil) (all_cons (fun YK rl k ls K v hv=>(show eZ.l0.g YK k K ls=some v→_ from fun hv=>by
  unfold eZ.l0.g at hv;split at hv
  · exact (congrFun (congrFun (eZ.l0.eq YK rl K _ _ _ _ _ _ _ k) _) _).trans hv
  · cases hv) hv) all_nil)
theorem eZ.ok (k:Nat):jg Tryz.prog 104 (eZ.m k).s:=okW eZ.fJ 1 Tryz.f104 k all_nil (fun k=>all_cons (iY.ok k) (all_nil)) (all_cons ⟨Tryz.func104,by kernel_rfl⟩ (all_cons ⟨Tryz.func140,by kernel_rfl⟩ all_nil)) (all_cons eZ.e0 all_nil) (by kernel_rfl) (by kernel_rfl) (fun a=>by kernel_rfl)
noncomputable def bits_Mul64.m (k:Nat):Sm:=jd [(.int .u64),(.int .u64)] [.pl (.int .u64),.pl (.int .u64)] (fun a=>bits_Mul64.f k a.1 a.2.1)
noncomputable def bits_Mul64.C {γ:Type}:Ctx γ:=mkC (fun k=>mkE [] []) [(143,Tryz.f143)] [(143,mkA [] [] [] [])] [] []
theorem bits_Mul64.fJ {γ:Type}:(bits_Mul64.C (γ:=γ)).Ok:=⟨(all_cons (fun k=>by kernel_rfl) all_nil),(all_cons (by kernel_rfl) all_nil),all_nil⟩
theorem bits_Mul64.ok (k:Nat):jg Tryz.prog 143 (bits_Mul64.m k).s:=okW bits_Mul64.fJ 0 Tryz.f143 k all_nil (fun k=>all_nil) (all_cons ⟨Tryz.func143,by kernel_rfl⟩ all_nil) all_nil (by kernel_rfl) (by kernel_rfl) (fun a=>by kernel_rfl)
noncomputable def iD.m (k:Nat):Sm:=jd [(.int .i64)] [.pl (.int .u64)] (fun a=>iD.f k a.1)
noncomputable def iD.C {γ:Type}:Ctx γ:=mkC (fun k=>mkE [] []) [(144,Tryz.f144)] [(144,mkA [] [] [] [])] [] []
theorem iD.fJ {γ:Type}:(iD.C (γ:=γ)).Ok:=⟨(all_cons (fun k=>by kernel_rfl) all_nil),(all_cons (by kernel_rfl) all_nil),all_nil⟩
theorem iD.ok (k:Nat):jg Tryz.prog 144 (iD.m k).s:=okW iD.fJ 0 Tryz.f144 k all_nil (fun k=>all_nil) (all_cons ⟨Tryz.func144,by kernel_rfl⟩ all_nil) all_nil (by kernel_rfl) (by kernel_rfl) (fun a=>by kernel_rfl)
noncomputable def iq.m (k:Nat):Sm:=jd [(.int .u64),.bool] [.pl (.int .i64),.pl (.int .i64)] (fun a=>iq.f k a.1 a.2.1)
noncomputable def iq.C {γ:Type}:Ctx γ:=mkC (fun k=>mkE [] []) [(145,Tryz.f145)] [(145,mkA [] [] [] [])] [] []
theorem iq.fJ {γ:Type}:(iq.C (γ:=γ)).Ok:=⟨(all_cons (fun k=>by kernel_rfl) all_nil),(all_cons (by kernel_rfl) all_nil),all_nil⟩
theorem iq.ok (k:Nat):jg Tryz.prog 145 (iq.m k).s:=okW iq.fJ 0 Tryz.f145 k all_nil (fun k=>all_nil) (all_cons ⟨Tryz.func145,by kernel_rfl⟩ all_nil) all_nil (by kernel_rfl) (by kernel_rfl) (fun a=>by kernel_rfl)
noncomputable def iH.m (k:Nat):Sm:=jd [(.int .i64),(.int .i64)] [.pl (.int .i64),.pl (.int .i64)] (fun a=>iH.f k a.1 a.2.1)
noncomputable def iH.C {γ:Type}:Ctx γ:=mkC (fun k=>mkE [(143,bits_Mul64.m k),(144,iD.m k),(145,iq.m k)] []) [(105,Tryz.f105)] [(105,mkA [] [] [] [])] [] []
theorem iH.fJ {γ:Type}:(iH.C (γ:=γ)).Ok:=⟨(all_cons (fun k=>by kernel_rfl) all_nil),(all_cons (by kernel_rfl) all_nil),all_nil⟩
theorem iH.ok (k:Nat):jg Tryz.prog 105 (iH.m k).s:=okW iH.fJ 0 Tryz.f105 k all_nil (fun k=>all_cons (bits_Mul64.ok k) (all_cons (iD.ok k) (all_cons (iq.ok k) (all_nil)))) (all_cons ⟨Tryz.func105,by kernel_rfl⟩ all_nil) all_nil (by kernel_rfl) (by kernel_rfl) (fun a=>by kernel_rfl)
noncomputable def iZ.m (k:Nat):Sm:=jd [.fm,(.int .i64)] [.pl (.sl 42 .sp),.pl (.int .i64),.pl (.int .i64)] (fun a=>iZ.f k a.1.f0 a.1.f1 a.1.f2 a.1.f3 a.2.1)
noncomputable def iZ.C {γ:Type}:Ctx γ:=mkC (fun k=>mkE [(70,gK.m k),(104,eZ.m k),(105,iH.m k)] []) [(54,Tryz.f54)] [(54,mkA [] [] [] [])] [] []
theorem iZ.fJ {γ:Type}:(iZ.C (γ:=γ)).Ok:=⟨(all_cons (fun k=>by kernel_rfl) all_nil),(all_cons (by kernel_rfl) all_nil),all_nil⟩
theorem iZ.ok (k:Nat):jg Tryz.prog 54 (iZ.m k).s:=okW iZ.fJ 0 Tryz.f54 k all_nil (fun k=>all_cons (gK.ok k) (all_cons (eZ.ok k) (all_cons (iH.ok k) (all_nil)))) (all_cons ⟨Tryz.func54,by kernel_rfl⟩ all_nil) all_nil (by kernel_rfl) (by kernel_rfl) (fun a=>by kernel_rfl)
noncomputable def jo.m (k:Nat):Sm:=jd [(.int .i64),(.int .i64)] [.pl (.int .i64),.pl (.int .i64)] (fun a=>jo.f k a.1 a.2.1)
noncomputable def jo.C {γ:Type}:Ctx γ:=mkC (fun k=>mkE [] []) [(106,Tryz.f106)] [(106,mkA [] [] [] [])] [] []
theorem jo.fJ {γ:Type}:(jo.C (γ:=γ)).Ok:=⟨(all_cons (fun k=>by kernel_rfl) all_nil),(all_cons (by kernel_rfl) all_nil),all_nil⟩
theorem jo.ok (k:Nat):jg Tryz.prog 106 (jo.m k).s:=okW jo.fJ 0 Tryz.f106 k all_nil (fun k=>all_nil) (all_cons ⟨Tryz.func106,by kernel_rfl⟩ all_nil) all_nil (by kernel_rfl) (by kernel_rfl) (fun a=>by kernel_rfl)
noncomputable def eG.m (k:Nat):Sm:=jd [(.sl 42 .sp),(.int .i64)] [.own 42 .sp,.pl (.int .i64)] (fun a=>eG.f k a.1 a.2.1)
noncomputable def eG.l0.p:PS:=⟨[nO,.one (.i .i64)]++nOs 4++[.one (.o 42 .sp)]++nOs 6++[.one (.s .sp),.one (.i .i64),.one (.i .i64)]++nOs 41,[]⟩
noncomputable def eG.l0.c {γ:Type} (YK:HdK γ) (K:dO→St→Option γ)  := ((fun y1=>K .ret ((⟨nOs 4++[.one (.lo 42 .sp),.one (.li .i64 20),.one (.o 42 .sp)]++nOs 50,[]⟩:PS).mk' [.l .sp y1])),(fun y1=>K (.exit 0) ((⟨nOs 6++[.one (.o 42 .sp)]++nOs 50,[]⟩:PS).mk' [.l .sp y1])))
noncomputable def eG.l0.g {γ:Type} (YK:HdK γ) (k:Nat) (K:dO→St→Option γ):List Lf→Option γ
  | [.i c1,.l .sp v2,.l .sp c3,.i c4,.i v5]=>let q:=eG.l0.c YK K;eG.l0 q.1 q.2 c1 c3 c4 k v2 v5
  | _=>none
noncomputable def eG.C {γ:Type}:Ctx γ:=mkC (fun k=>mkE [(106,jo.m k),(107,iA.m k)] []) [(55,Tryz.f55)] [(55,mkA [49,56] [(0,[1,6,13,14,15])] [(0,[4,5,6])] [])] [⟨0,55,0,iB [(eG.l0.p,eG.l0.g)]⟩] []
theorem eG.l0.eq {γ:Type} (YK:HdK γ) (rl:Option Nat) (K:dO→St→Option γ) (c1:Int) (c3:List P.S42) (c4:Int):∀ k:Nat,(fun (v2:List P.S42) (v5:Int)=>eG.C.lK 0 55 0 Tryz.f55 YK rl 0 k (eG.l0.p.mk' [.i c1,.l .sp v2,.l .sp c3,.i c4,.i v5]) K)=(fun (v2:List P.S42) (v5:Int)=>eG.l0.g YK k K [.i c1,.l .sp v2,.l .sp c3,.i c4,.i v5]):=fE (fun R k v2 v5=>eG.l0T (eG.l0.c YK K).1 (eG.l0.c YK K).2 c1 c3 c4 R k v2 v5) (by kernel_rfl) (fun k=>by kernel_rfl) (fun k=>by kernel_rfl)
theorem eG.fJ {γ:Type}:(eG.C (γ:=γ)).Ok:=⟨(all_cons (fun k=>by kernel_rfl) all_nil),(all_cons (by kernel_rfl) all_nil),all_nil⟩
theorem eG.e0 {γ:Type}:iw (eG.C (γ:=γ)) ⟨0,55,0,iB [(eG.l0.p,eG.l0.g)]⟩:=eG.fJ.jY Tryz.f55 [] (by kernel_rfl) (by kernel_rfl) (by kernel_rfl) (all_cons iN all_nil) (all_cons (fun YK rl k ls K v hv=>(show eG.l0.g YK k K ls=some v→_ from fun hv=>by
  unfold eG.l0.g at hv;split at hv
  · exact (congrFun (congrFun (eG.l0.eq YK rl K _ _ _ k) _) _).trans hv
  · cases hv) hv) all_nil)
theorem eG.ok (k:Nat):jg Tryz.prog 55 (eG.m k).s:=okW eG.fJ 0 Tryz.f55 k all_nil (fun k=>all_cons (jo.ok k) (all_cons (iA.ok k) (all_nil))) (all_cons ⟨Tryz.func55,by kernel_rfl⟩ all_nil) (all_cons eG.e0 all_nil) (by kernel_rfl) (by kernel_rfl) (fun a=>by kernel_rfl)
noncomputable def gy.m (k:Nat):Sm:=jd [.fm,(.int .i64)] [.own 42 .sp,.pl (.int .i64)] (fun a=>gy.f k a.1.f0 a.1.f1 a.1.f2 a.1.f3 a.2.1)
noncomputable def gy.C {γ:Type}:Ctx γ:=mkC (fun k=>mkE [(53,gH.m k),(54,iZ.m k),(55,eG.m k)] []) [(19,Tryz.f19)] [(19,mkA [27] [] [] [])] [] []
theorem gy.fJ {γ:Type}:(gy.C (γ:=γ)).Ok:=⟨(all_cons (fun k=>by kernel_rfl) all_nil),(all_cons (by kernel_rfl) all_nil),all_nil⟩
theorem gy.ok (k:Nat):jg Tryz.prog 19 (gy.m k).s:=okW gy.fJ 0 Tryz.f19 k all_nil (fun k=>all_cons (gH.ok k) (all_cons (iZ.ok k) (all_cons (eG.ok k) (all_nil)))) (all_cons ⟨Tryz.func19,by kernel_rfl⟩ all_nil) all_nil (by kernel_rfl) (by kernel_rfl) (fun a=>by kernel_rfl)
noncomputable def iP.m (k:Nat):Sm:=jd [(.sl 42 .sp)] [.pl .bool] (fun a=>iP.f k a.1)
noncomputable def iP.C {γ:Type}:Ctx γ:=mkC (fun k=>mkE [] []) [(182,Tryz.f182)] [(182,mkA [] [] [] [])] [] []
theorem iP.fJ {γ:Type}:(iP.C (γ:=γ)).Ok:=⟨(all_cons (fun k=>by kernel_rfl) all_nil),(all_cons (by kernel_rfl) all_nil),all_nil⟩
theorem iP.ok (k:Nat):jg Tryz.prog 182 (iP.m k).s:=okW iP.fJ 0 Tryz.f182 k all_nil (fun k=>all_nil) (all_cons ⟨Tryz.func182,by kernel_rfl⟩ all_nil) all_nil (by kernel_rfl) (by kernel_rfl) (fun a=>by kernel_rfl)
noncomputable def eY.m (k:Nat):Sm:=jd [.fm] [.pl .bool] (fun a=>eY.f k a.1.f0 a.1.f1 a.1.f2 a.1.f3)
noncomputable def eY.l0.p:PS:=⟨[.one (.s (.sl 42 .sp)),.one (.fn 182 [])]++nOs 5++[.one (.i .i64),.one (.i .i64)]++nOs 10,[.box 25 [.i .i64,.i .i64,.s (.sl 42 .sp),.s .gr]]⟩
noncomputable def eY.l0.c {γ:Type} (YK:HdK γ) (K:dO→St→Option γ) (c4:Int) (c5:Int) (c6:List (List P.S42)) (c7:List P.S44):=((fun y1=>K .ret ((⟨nOs 4++[.one (.i .i64)]++nOs 14,[.box 25 [.i .i64,.i .i64,.s (.sl 42 .sp),.s .gr]]⟩:PS).mk' [.i y1,.i c4,.i c5,.l (.sl 42 .sp) c6,.l .gr c7])),(K (.exit 0) ((⟨nOs 19,[.box 25 [.i .i64,.i .i64,.s (.sl 42 .sp),.s .gr]]⟩:PS).mk' [.i c4,.i c5,.l (.sl 42 .sp) c6,.l .gr c7])))
noncomputable def eY.l0.g {γ:Type} (YK:HdK γ) (k:Nat) (K:dO→St→Option γ):List Lf→Option γ
  | [.l (.sl 42 .sp) c1,.i c2,.i v3,.i c4,.i c5,.l (.sl 42 .sp) c6,.l .gr c7]=>let q:=eY.l0.c YK K c4 c5 c6 c7;eY.l0 q.1 q.2 c1 c2 k v3
  | _=>none
noncomputable def eY.C {γ:Type}:Ctx γ:=mkC (fun k=>mkE [(182,iP.m k)] []) [(179,Tryz.f179),(112,Tryz.f112),(150,Tryz.f150)] [(179,mkA [] [] [] []),(112,mkA [] [] [] []),(150,mkA [] [(0,[0,1,7,8])] [(0,[4])] [])] [⟨0,150,0,iB [(eY.l0.p,eY.l0.g)]⟩] []
theorem eY.l0.eq {γ:Type} (YK:HdK γ) (rl:Option Nat) (K:dO→St→Option γ) (c1:List (List P.S42)) (c2:Int) (c4:Int) (c5:Int) (c6:List (List P.S42)) (c7:List P.S44):∀ k:Nat,(fun (v3:Int)=>eY.C.lK 0 150 0 Tryz.f150 YK rl 1 k (eY.l0.p.mk' [.l (.sl 42 .sp) c1,.i c2,.i v3,.i c4,.i c5,.l (.sl 42 .sp) c6,.l .gr c7]) K)=(fun (v3:Int)=>eY.l0.g YK k K [.l (.sl 42 .sp) c1,.i c2,.i v3,.i c4,.i c5,.l (.sl 42 .sp) c6,.l .gr c7]):=fE (fun R k v3=>eY.l0T (eY.l0.c YK K c4 c5 c6 c7).1 (eY.l0.c YK K c4 c5 c6 c7).2 c1 c2 R k v3) (by kernel_rfl) (fun k=>by kernel_rfl) (fun k=>by kernel_rfl)
theorem eY.fJ {γ:Type}:(eY.C (γ:=γ)).Ok:=⟨(all_cons (fun k=>by kernel_rfl) (all_cons (fun k=>by kernel_rfl) (all_cons (fun k=>by kernel_rfl) all_nil))),(all_cons (by kernel_rfl) (all_cons (by kernel_rfl) (all_cons (by kernel_rfl) all_nil))),all_nil⟩
theorem eY.e0 {γ:Type}:iw (eY.C (γ:=γ)) ⟨0,150,0,iB [(eY.l0.p,eY.l0.g)]⟩:=eY.fJ.jY Tryz.f150 [] (by kernel_rfl) (by kernel_rfl) (by kernel_rfl) (all_cons iN all_nil) (all_cons (fun YK rl k ls K v hv=>(show eY.l0.g YK k K ls=some v→_ from fun hv=>by
  unfold eY.l0.g at hv;split at hv
  · exact (congrFun (eY.l0.eq YK rl K _ _ _ _ _ _ k) _).trans hv
  · cases hv) hv) all_nil)
theorem eY.ok (k:Nat):jg Tryz.prog 179 (eY.m k).s:=okW eY.fJ 2 Tryz.f179 k all_nil (fun k=>all_cons (iP.ok k) (all_nil)) (all_cons ⟨Tryz.func179,by kernel_rfl⟩ (all_cons ⟨Tryz.func112,by kernel_rfl⟩ (all_cons ⟨Tryz.func150,by kernel_rfl⟩ all_nil))) (all_cons eY.e0 all_nil) (by kernel_rfl) (by kernel_rfl) (fun a=>by kernel_rfl)
noncomputable def jr.m (k:Nat):Sm:=jd [.fm,(.int .i64)] [.pl .bool] (fun a=>jr.f k a.1.f0 a.1.f1 a.1.f2 a.1.f3 a.2.1)
noncomputable def jr.C {γ:Type}:Ctx γ:=mkC (fun k=>mkE [(54,iZ.m k)] []) [(180,Tryz.f180)] [(180,mkA [] [] [] [])] [] []
theorem jr.fJ {γ:Type}:(jr.C (γ:=γ)).Ok:=⟨(all_cons (fun k=>by kernel_rfl) all_nil),(all_cons (by kernel_rfl) all_nil),all_nil⟩
theorem jr.ok (k:Nat):jg Tryz.prog 180 (jr.m k).s:=okW jr.fJ 0 Tryz.f180 k all_nil (fun k=>all_cons (iZ.ok k) (all_nil)) (all_cons ⟨Tryz.func180,by kernel_rfl⟩ all_nil) all_nil (by kernel_rfl) (by kernel_rfl) (fun a=>by kernel_rfl)
end Go.Proofs.YtcomnjodjijcmaaGreat.R
