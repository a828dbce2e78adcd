/- Lemmas for laws of chapter 7: what the functions that they reach compute. No condition of its own. -/
import Derived.Test.YtcomnjodjijcmaaGreatYE9
import Derived.Test.YtcomnjodjijcmaaGreatYE10
import Derived.Test.YtcomnjodjijcmaaGreatYE11
namespace Go.Proofs.YtcomnjodjijcmaaGreat.R
open M Go.RowKit Go.Proofs.YtcomnjodjijcmaaGreatW.dz Go.Proofs.YtcomnjodjijcmaaGreatW.dX Go.Proofs.YtcomnjodjijcmaaGreatW.eD
set_option linter.unusedVariables false
variable [Inhabited WT]
section
variable {γ:Type} (X0:Option γ) (X1:Option γ) (c1:List P.S42) (c2:Int) (c3:List P.S42) (c4:Int)
noncomputable def agt.l0T (R:Int→Option γ) (k:Nat) (v5:Int):Option γ:=(if (decide (v5<(c1.length:Int)))=true then (if 0≤v5 then (if v5<(c1.length:Int) then (if 0≤v5 then (if v5<(c3.length:Int) then (if (!(decide ((wq ((gS c1 v5).f0+c2))=(wq ((gS c3 v5).f0+c4)))))=true then X0 else (if 0≤v5 then (if v5<(c1.length:Int) then (if 0≤v5 then (if v5<(c3.length:Int) then (if (!(decide ((wq ((gS c1 v5).f1+c2))=(wq ((gS c3 v5).f1+c4)))))=true then X0 else (R (wq (v5+1)))) else none) else none) else none) else none)) else none) else none) else none) else none) else X1)
noncomputable def agt.l0:Nat→Int→Option γ
  | 0=>(fun _=>none)
  | k+1=>(fun v5=>(agt.l0T X0 X1 c1 c2 c3 c4 (agt.l0 k) k v5))
end
noncomputable def agt.f (k:Nat) (a0:List P.S42) (a1:Int) (a2:List P.S42) (a3:Int):Option (Bool):=(if (!(decide ((a0.length:Int)=(a2.length:Int))))=true then (some false) else (agt.l0 (some false) (some true) a0 a1 a2 a3 k 0))
section
variable {γ:Type} (X0:Option γ) (X1:Option γ) (c1:Int) (c3:Int) (c4:Int) (c5:List (List P.S42)) (c6:List P.S44)
noncomputable def agu.l0T (R:Int→Option γ) (k:Nat) (v2:Int):Option γ:=(if (decide (v2<c4))=true then ((agJ.f k c3 c4 c5 c6 v2).bind fun t7=>((agJ.f k c3 c4 c5 c6 (wq (v2+c1))).bind fun t8=>(if c4=0 then none else ((agt.f k t7.1 (wq (t7.2+(wq (Int.tdiv (wq (c3*c1)) c4)))) t8.1 t8.2).bind fun t9=>(if (!t9)=true then X0 else (R (wq (v2+1)))))))) else X1)
noncomputable def agu.l0:Nat→Int→Option γ
  | 0=>(fun _=>none)
  | k+1=>(fun v2=>(agu.l0T X0 X1 c1 c3 c4 c5 c6 (agu.l0 k) k v2))
end
noncomputable def agu.f (k:Nat) (ab:Int) (aa:Int) (ac:List (List P.S42)) (af:List P.S44) (a1:Int):Option (Bool):=(if a1=0 then none else (if (!(decide ((Int.tmod aa a1)=0)))=true then (some false) else (if aa=0 then none else (if (!(decide ((Int.tmod (wq (ab*a1)) aa)=0)))=true then (some false) else (agu.l0 (some false) (some true) a1 ab aa ac af k 0)))))
section
variable {γ:Type} (X0:Int→Option γ) (c2:Int) (c3:Int) (c4:List (List P.S42)) (c5:List P.S44)
noncomputable def nu.l0T (R:Int→Option γ) (k:Nat) (v1:Int):Option γ:=((agu.f k c2 c3 c4 c5 v1).bind fun t4=>(if (!t4)=true then (R (wq (v1+1))) else (X0 v1)))
noncomputable def nu.l0:Nat→Int→Option γ
  | 0=>(fun _=>none)
  | k+1=>(fun v1=>(nu.l0T X0 c2 c3 c4 c5 (nu.l0 k) k v1))
end
section
variable {γ:Type} (X0:(List (List P.S42))→Option γ) (c1:Int) (c5:List (List P.S42))
noncomputable def nu.l1T (R:Int→(List (List P.S42))→Option γ) (k:Nat) (v2:Int) (v9:List (List P.S42)):Option γ:=(if (decide (v2<c1))=true then (if 0≤v2 then (if v2<(c5.length:Int) then (if 0+(gL c5 v2).length≤8796093022208 then (if v9.length+1≤5864062014805 then (R (wq (v2+1)) (v9++[(gL c5 v2)])) else none) else none) else none) else none) else (X0 v9))
noncomputable def nu.l1:Nat→Int→(List (List P.S42))→Option γ
  | 0=>(fun _ _=>none)
  | k+1=>(fun v2 v9=>(nu.l1T X0 c1 c5 (nu.l1 k) k v2 v9))
end
section
variable {γ:Type} (X0:(List P.S44)→Option γ) (c6:List P.S44) (c7:Int) (c8:Int) (c9:List (List P.S42))
noncomputable def nu.l2T (R:(List P.S44)→Int→Option γ) (k:Nat) (v1:List P.S44) (v2:Int):Option γ:=(if (decide (v2<(c6.length:Int)))=true then (if (decide (c8>0))=true then (if 0≤v2 then (if v2<(c6.length:Int) then ((agJ.f k c7 c8 c9 [] (gG c6 v2).f0).bind fun aa=>(if 0≤v2 then (if v2<(c6.length:Int) then ((agt.f k aa.1 aa.2 (gG c6 v2).f1 0).bind fun ab=>(if (!ab)=true then (if 0≤v2 then (if v2<(c6.length:Int) then (if 0≤v2 then (if v2<(c6.length:Int) then (if 0+(gG c6 v2).f1.length≤8796093022208 then (if v1.length+1≤4398046511104 then (R (v1++[(gG c6 v2)]) (wq (v2+1))) else none) else none) else none) else none) else none) else none) else (R v1 (wq (v2+1))))) else none) else none)) else none) else none) else (if 0≤v2 then (if v2<(c6.length:Int) then ((agt.f k [] 0 (gG c6 v2).f1 0).bind fun ac=>(if (!ac)=true then (if 0≤v2 then (if v2<(c6.length:Int) then (if 0≤v2 then (if v2<(c6.length:Int) then (if 0+(gG c6 v2).f1.length≤8796093022208 then (if v1.length+1≤4398046511104 then (R (v1++[(gG c6 v2)]) (wq (v2+1))) else none) else none) else none) else none) else none) else none) else (R v1 (wq (v2+1))))) else none) else none)) else (X0 v1))
noncomputable def nu.l2:Nat→(List P.S44)→Int→Option γ
  | 0=>(fun _ _=>none)
  | k+1=>(fun v1 v2=>(nu.l2T X0 c6 c7 c8 c9 (nu.l2 k) k v1 v2))
end
noncomputable def nu.f (k:Nat) (ab:Int) (aa:Int) (af:List (List P.S42)) (ac:List P.S44):Option (P.S25):=((agx.f k ab aa af ac).bind fun t1=>(if (!t1)=true then (nu.l0 (fun y5=>(if aa=0 then none else (nu.l1 (fun y6=>(nu.l2 (fun ah=>(some (⟨(wq (Int.tdiv (wq (ab*y5)) aa)),y5,y6,ah⟩:P.S25))) ac (wq (Int.tdiv (wq (ab*y5)) aa)) y5 y6 k [] 0)) y5 af k 0 []))) ab aa af ac k 1) else (nu.l2 (fun ai=>(some (⟨0,0,[],ai⟩:P.S25))) ac 0 0 [] k [] 0)))
section
variable {γ:Type} (X0:Int→Option γ) (c1:Int) (c2:Int)
noncomputable def agq.l0T (R:Int→Option γ) (k:Nat) (v3:Int):Option γ:=(if c2=0 then none else (if (!(decide ((Int.tmod v3 c2)=0)))=true then (R (wq (v3+c1))) else (X0 v3)))
noncomputable def agq.l0:Nat→Int→Option γ
  | 0=>(fun _=>none)
  | k+1=>(fun v3=>(agq.l0T X0 c1 c2 (agq.l0 k) k v3))
end
noncomputable def agq.f (k:Nat) (a0:Int) (a1:Int):Option (Int):=(agq.l0 (fun y1=>(some y1)) a0 a1 k a0)
noncomputable def agE.f (k:Nat) (ac:Int) (aa:Int) (ah:List (List P.S42)) (ai:List P.S44) (af:Int) (ab:Int) (aj:List (List P.S42)) (ak:List P.S44):Option (Int × Int × Int):=(if (decide (aa=0))=true then (if (decide (ab=0))=true then (some (0,0,0)) else (if (decide (aa>0))=true then (if (decide (ab>0))=true then ((agq.f k aa ab).bind fun t1=>(if (decide (t1>6000))=true then (some (0,0,3)) else (if aa=0 then none else (if ac=0 then none else (if (decide ((wq (Int.tdiv t1 aa))>(wq (Int.tdiv 1099511627776 ac))))=true then (some (0,0,20)) else (if aa=0 then none else (some (t1,(wq (ac*(wq (Int.tdiv t1 aa)))),0)))))))) else (if (decide (aa>6000))=true then (some (0,0,3)) else (if aa=0 then none else (if ac=0 then none else (if (decide ((wq (Int.tdiv aa aa))>(wq (Int.tdiv 1099511627776 ac))))=true then (some (0,0,20)) else (if aa=0 then none else (some (aa,(wq (ac*(wq (Int.tdiv aa aa)))),0)))))))) else (if (decide (ab>6000))=true then (some (0,0,3)) else (if ab=0 then none else (if af=0 then none else (if (decide ((wq (Int.tdiv ab ab))>(wq (Int.tdiv 1099511627776 af))))=true then (some (0,0,20)) else (if ab=0 then none else (some (ab,(wq (af*(wq (Int.tdiv ab ab)))),0))))))))) else (if (decide (aa>0))=true then (if (decide (ab>0))=true then ((agq.f k aa ab).bind fun t2=>(if (decide (t2>6000))=true then (some (0,0,3)) else (if aa=0 then none else (if ac=0 then none else (if (decide ((wq (Int.tdiv t2 aa))>(wq (Int.tdiv 1099511627776 ac))))=true then (some (0,0,20)) else (if aa=0 then none else (some (t2,(wq (ac*(wq (Int.tdiv t2 aa)))),0)))))))) else (if (decide (aa>6000))=true then (some (0,0,3)) else (if aa=0 then none else (if ac=0 then none else (if (decide ((wq (Int.tdiv aa aa))>(wq (Int.tdiv 1099511627776 ac))))=true then (some (0,0,20)) else (if aa=0 then none else (some (aa,(wq (ac*(wq (Int.tdiv aa aa)))),0)))))))) else (if (decide (ab>6000))=true then (some (0,0,3)) else (if ab=0 then none else (if af=0 then none else (if (decide ((wq (Int.tdiv ab ab))>(wq (Int.tdiv 1099511627776 af))))=true then (some (0,0,20)) else (if ab=0 then none else (some (ab,(wq (af*(wq (Int.tdiv ab ab)))),0)))))))))
section
variable {γ:Type} (X0:Option γ) (X1:Option γ) (c4:List (List P.S42))
noncomputable def agC.l0T (R:Int→Option γ) (k:Nat) (v1:Int):Option γ:=(if (decide (v1<(c4.length:Int)))=true then (if 0≤v1 then (if v1<(c4.length:Int) then (if (decide (((gL c4 v1).length:Int)>0))=true then X0 else (R (wq (v1+1)))) else none) else none) else X1)
noncomputable def agC.l0:Nat→Int→Option γ
  | 0=>(fun _=>none)
  | k+1=>(fun v1=>(agC.l0T X0 X1 c4 (agC.l0 k) k v1))
end
noncomputable def agC.f (k:Nat) (ab:Int) (ac:Int) (aa:List (List P.S42)) (af:List P.S44):Option (Bool):=(agC.l0 (some true) (some false) aa k 0)
noncomputable def agO.f (k:Nat) (aa:Int) (ab:Int) (ac:List (List P.S42)) (af:List P.S44) (ah:Int) (ai:Int) (aj:List (List P.S42)) (ak:List P.S44):Option (Bool × Int):=((agE.f k aa ab ac af ah ai aj ak).bind fun t1=>((agE.f k ah ai aj ak aa ab ac af).bind fun t2=>((agC.f k aa ab ac af).bind fun t3=>(if (!t3)=true then (some (true,t1.2.2)) else ((agC.f k ah ai aj ak).bind fun t4=>(if (!t4)=true then (some (true,t1.2.2)) else (some ((decide (t1.2.1=t2.2.1)),t1.2.2))))))))
section
variable {γ:Type} (X0:(List P.S42)→Option γ) (X1:Option γ) (c1:Int) (c6:List P.S44)
noncomputable def agA.l0T (R:Int→Option γ) (k:Nat) (v2:Int):Option γ:=(if (decide (v2<(c6.length:Int)))=true then (if 0≤v2 then (if v2<(c6.length:Int) then (if (decide ((gG c6 v2).f0=c1))=true then (if 0≤v2 then (if v2<(c6.length:Int) then (X0 (gG c6 v2).f1) else none) else none) else (R (wq (v2+1)))) else none) else none) else X1)
noncomputable def agA.l0:Nat→Int→Option γ
  | 0=>(fun _=>none)
  | k+1=>(fun v2=>(agA.l0T X0 X1 c1 c6 (agA.l0 k) k v2))
end
noncomputable def agA.f (k:Nat) (af:Int) (aa:Int) (ab:List (List P.S42)) (ac:List P.S44) (a1:Int):Option ((List P.S42) × Int):=(agA.l0 (fun y1=>(some (y1,0))) (if (decide (aa=0))=true then (some ([],0)) else ((agG.f k a1 aa).bind fun t2=>(if 0≤t2.2 then (if t2.2<(ab.length:Int) then (some ((gL ab t2.2),t2.1)) else none) else none))) a1 ac k 0)
section
variable {γ:Type} (X0:(List P.S42)→Option γ) (X1:(List P.S42)→Option γ) (c1:List P.S42) (c2:Int)
noncomputable def agy.l0T (R:(List P.S42)→Int→Option γ) (k:Nat) (v3:List P.S42) (v4:Int):Option γ:=(if (decide (v4<(c1.length:Int)))=true then (if 0≤v4 then (if v4<(c1.length:Int) then (if (decide (c2>(wq (1099511627776 - (gS c1 v4).f1))))=true then (X0 v3) else (if 0≤v4 then (if v4<(c1.length:Int) then (if (decide (c2<(wq ((-1099511627776) - (gS c1 v4).f0))))=true then (X0 v3) else (if 0≤v4 then (if v4<(c1.length:Int) then (if 0≤v4 then (if v4<(c1.length:Int) then (if v3.length+1≤8796093022208 then (R (v3++[(⟨(wq ((gS c1 v4).f0+c2)),(wq ((gS c1 v4).f1+c2))⟩:P.S42)]) (wq (v4+1))) else none) else none) else none) else none) else none)) else none) else none)) else none) else none) else (X1 v3))
noncomputable def agy.l0:Nat→(List P.S42)→Int→Option γ
  | 0=>(fun _ _=>none)
  | k+1=>(fun v3 v4=>(agy.l0T X0 X1 c1 c2 (agy.l0 k) k v3 v4))
end
noncomputable def agy.f (k:Nat) (a0:List P.S42) (a1:Int):Option ((List P.S42) × Int):=(agy.l0 (fun y1=>(some ([],20))) (fun y2=>(some (y2,0))) a0 a1 k [] 0)
noncomputable def agF.f (k:Nat) (aa:Int) (ab:Int) (ac:List (List P.S42)) (af:List P.S44) (a1:Int):Option ((List P.S42) × Int):=(if (decide (a1<(-1099511627776)))=true then (some ([],20)) else (if (decide (a1>1099511627776))=true then (some ([],20)) else ((agA.f k aa ab ac af a1).bind fun t1=>(if (decide ((t1.1.length:Int)=0))=true then (if 0+t1.1.length≤8796093022208 then (some (t1.1,0)) else none) else (if (decide (t1.2=0))=true then (if 0+t1.1.length≤8796093022208 then (some (t1.1,0)) else none) else (if aa=0 then none else (if (decide (t1.2>(wq ((wq (Int.tdiv 2199023255552 aa))+1))))=true then (some ([],20)) else (if aa=0 then none else (if (decide (t1.2<(wq ((wq (Int.tdiv (-2199023255552) aa)) - 1))))=true then (some ([],20)) else ((agy.f k t1.1 (wq (t1.2*aa))).bind fun t2=>(some (t2.1,t2.2))))))))))))
section
variable {γ:Type} (X0:(List Int)→Bool→Option γ) (c1:List Int) (c2:Int)
noncomputable def afA.l0T (R:(List Int)→Bool→Int→Option γ) (k:Nat) (v3:List Int) (v4:Bool) (v5:Int):Option γ:=(if (decide (v5<(c1.length:Int)))=true then (if 0≤v5 then (if v5<(c1.length:Int) then (if (decide ((gI c1 v5)=c2))=true then (if 0≤v5 then (if v5<(c1.length:Int) then (if v3.length+1≤17592186044416 then (R (v3++[(gI c1 v5)]) true (wq (v5+1))) else none) else none) else none) else (if (!v4)=true then (if 0≤v5 then (if v5<(c1.length:Int) then (if (decide ((gI c1 v5)>c2))=true then (if v3.length+1≤17592186044416 then (if 0≤v5 then (if v5<(c1.length:Int) then (if (v3++[c2]).length+1≤17592186044416 then (R ((v3++[c2])++[(gI c1 v5)]) true (wq (v5+1))) else none) else none) else none) else none) else (if 0≤v5 then (if v5<(c1.length:Int) then (if v3.length+1≤17592186044416 then (R (v3++[(gI c1 v5)]) v4 (wq (v5+1))) else none) else none) else none)) else none) else none) else (if 0≤v5 then (if v5<(c1.length:Int) then (if v3.length+1≤17592186044416 then (R (v3++[(gI c1 v5)]) v4 (wq (v5+1))) else none) else none) else none))) else none) else none) else (X0 v3 v4))
noncomputable def afA.l0:Nat→(List Int)→Bool→Int→Option γ
  | 0=>(fun _ _ _=>none)
  | k+1=>(fun v3 v4 v5=>(afA.l0T X0 c1 c2 (afA.l0 k) k v3 v4 v5))
end
noncomputable def afA.f (k:Nat) (a0:List Int) (a1:Int):Option (List Int):=(afA.l0 (fun y1 y2=>(if (!y2)=true then (if y1.length+1≤17592186044416 then (some (y1++[a1])) else none) else (some y1))) a0 a1 k [] false 0)
section
variable {γ:Type} (X0:(List Int)→Option γ) (c1:List P.S42)
noncomputable def aes.l0T (R:(List Int)→Int→Option γ) (k:Nat) (v3:List Int) (v4:Int):Option γ:=(if (decide (v4<(c1.length:Int)))=true then (if 0≤v4 then (if v4<(c1.length:Int) then ((afA.f k v3 (gS c1 v4).f0).bind fun t5=>(if 0≤v4 then (if v4<(c1.length:Int) then ((afA.f k t5 (wq ((gS c1 v4).f1+1))).bind fun t6=>(R t6 (wq (v4+1)))) else none) else none)) else none) else none) else (X0 v3))
noncomputable def aes.l0:Nat→(List Int)→Int→Option γ
  | 0=>(fun _ _=>none)
  | k+1=>(fun v3 v4=>(aes.l0T X0 c1 (aes.l0 k) k v3 v4))
end
section
variable {γ:Type} (X0:(List Int)→Option γ) (c1:List P.S42)
noncomputable def aes.l1T (R:(List Int)→Int→Option γ) (k:Nat) (v2:List Int) (v3:Int):Option γ:=(if (decide (v3<(c1.length:Int)))=true then (if 0≤v3 then (if v3<(c1.length:Int) then ((afA.f k v2 (gS c1 v3).f0).bind fun t12=>(if 0≤v3 then (if v3<(c1.length:Int) then ((afA.f k t12 (wq ((gS c1 v3).f1+1))).bind fun aa=>(R aa (wq (v3+1)))) else none) else none)) else none) else none) else (X0 v2))
noncomputable def aes.l1:Nat→(List Int)→Int→Option γ
  | 0=>(fun _ _=>none)
  | k+1=>(fun v2 v3=>(aes.l1T X0 c1 (aes.l1 k) k v2 v3))
end
noncomputable def aes.f (k:Nat) (a0:List P.S42) (a1:List P.S42):Option (List Int):=(aes.l0 (fun y7=>(aes.l1 (fun aa=>(some aa)) a1 k y7 0)) a0 k [] 0)
noncomputable def agU.f (k:Nat) (a0:Int) (a1:Bool) (a2:Bool):Option (Bool):=(if (decide (a0=1))=true then (if a1=true then (some true) else (some a2)) else (if (decide (a0=2))=true then (if a1=true then (some a2) else (some false)) else (if a1=true then (some (!a2)) else (some false))))
section
variable {γ:Type} (X0:Option γ) (X1:Option γ) (c1:List P.S42) (c2:Int)
noncomputable def agB.l0T (R:Int→Option γ) (k:Nat) (v3:Int):Option γ:=(if (decide (v3<(c1.length:Int)))=true then (if 0≤v3 then (if v3<(c1.length:Int) then (if (decide ((gS c1 v3).f0≤c2))=true then (if 0≤v3 then (if v3<(c1.length:Int) then (if (decide (c2≤(gS c1 v3).f1))=true then X0 else (R (wq (v3+1)))) else none) else none) else (R (wq (v3+1)))) else none) else none) else X1)
noncomputable def agB.l0:Nat→Int→Option γ
  | 0=>(fun _=>none)
  | k+1=>(fun v3=>(agB.l0T X0 X1 c1 c2 (agB.l0 k) k v3))
end
noncomputable def agB.f (k:Nat) (a0:List P.S42) (a1:Int):Option (Bool):=(agB.l0 (some true) (some false) a0 a1 k 0)
section
variable {γ:Type} (X0:(List P.S42)→Option γ) (c1:Int) (c2:List P.S42) (c3:List P.S42) (c4:List Int)
noncomputable def agD.l0T (R:(List P.S42)→Int→Option γ) (k:Nat) (v5:List P.S42) (v6:Int):Option γ:=(if (decide ((wq (v6+1))<(c4.length:Int)))=true then (if 0≤v6 then (if v6<(c4.length:Int) then ((agB.f k c2 (gI c4 v6)).bind fun t8=>(if 0≤v6 then (if v6<(c4.length:Int) then ((agB.f k c3 (gI c4 v6)).bind fun t9=>((agU.f k c1 t8 t9).bind fun t10=>(if (!t10)=true then (R v5 (wq (v6+1))) else (if (decide ((v5.length:Int)>0))=true then (if 0≤(wq ((v5.length:Int) - 1)) then (if (wq ((v5.length:Int) - 1))<(v5.length:Int) then (if 0≤v6 then (if v6<(c4.length:Int) then (if (decide ((gS v5 (wq ((v5.length:Int) - 1))).f1=(wq ((gI c4 v6) - 1))))=true then (if 0≤(wq (v6+1)) then (if (wq (v6+1))<(c4.length:Int) then (if 0≤(wq ((v5.length:Int) - 1)) then (if (wq ((v5.length:Int) - 1))<(v5.length:Int) then (R (v5.set (Int.toNat (wq ((v5.length:Int) - 1))) (⟨(gS v5 (wq ((v5.length:Int) - 1))).f0,(wq ((gI c4 (wq (v6+1))) - 1))⟩:P.S42)) (wq (v6+1))) else none) else none) else none) else none) else (if 0≤v6 then (if v6<(c4.length:Int) then (if 0≤(wq (v6+1)) then (if (wq (v6+1))<(c4.length:Int) then (if v5.length+1≤8796093022208 then (R (v5++[(⟨(gI c4 v6),(wq ((gI c4 (wq (v6+1))) - 1))⟩:P.S42)]) (wq (v6+1))) else none) else none) else none) else none) else none)) else none) else none) else none) else none) else (if 0≤v6 then (if v6<(c4.length:Int) then (if 0≤(wq (v6+1)) then (if (wq (v6+1))<(c4.length:Int) then (if v5.length+1≤8796093022208 then (R (v5++[(⟨(gI c4 v6),(wq ((gI c4 (wq (v6+1))) - 1))⟩:P.S42)]) (wq (v6+1))) else none) else none) else none) else none) else none))))) else none) else none)) else none) else none) else (X0 v5))
noncomputable def agD.l0:Nat→(List P.S42)→Int→Option γ
  | 0=>(fun _ _=>none)
  | k+1=>(fun v5 v6=>(agD.l0T X0 c1 c2 c3 c4 (agD.l0 k) k v5 v6))
end
noncomputable def agD.f (k:Nat) (a0:Int) (a1:List P.S42) (a2:List P.S42):Option (List P.S42):=((aes.f k a1 a2).bind fun t1=>(agD.l0 (fun aa=>(some aa)) a0 a1 a2 t1 k [] 0))
noncomputable def agM.f (k:Nat) (a0:List P.S42) (a1:List P.S42):Option (Bool):=((agD.f k 3 a0 a1).bind fun t1=>(if (decide ((t1.length:Int)=0))=true then ((agD.f k 3 a1 a0).bind fun t2=>(some (decide ((t2.length:Int)=0)))) else (some false)))
section
variable {γ:Type} (X0:Option γ) (X1:Option γ) (c2:Int) (c3:Int) (c4:List (List P.S42)) (c5:List P.S44) (c6:Int) (c7:Int) (c8:List (List P.S42)) (c9:List P.S44)
noncomputable def ags.l0T (R:Int→Option γ) (k:Nat) (v1:Int):Option γ:=(if (decide (v1≤700))=true then ((agF.f k c2 c3 c4 c5 v1).bind fun t10=>((agF.f k c6 c7 c8 c9 v1).bind fun t11=>(if (decide ((t10.1.length:Int)>0))=true then (if (decide ((t11.1.length:Int)>0))=true then ((agM.f k t10.1 t11.1).bind fun t12=>(if (!t12)=true then X0 else (R (wq (v1+1))))) else (R (wq (v1+1)))) else (R (wq (v1+1)))))) else X1)
noncomputable def ags.l0:Nat→Int→Option γ
  | 0=>(fun _=>none)
  | k+1=>(fun v1=>(ags.l0T X0 X1 c2 c3 c4 c5 c6 c7 c8 c9 (ags.l0 k) k v1))
end
noncomputable def ags.f (k:Nat) (aa:Int) (ab:Int) (ac:List (List P.S42)) (af:List P.S44) (ah:Int) (ai:Int) (aj:List (List P.S42)) (ak:List P.S44):Option (Bool × Int):=((nu.f k aa ab ac af).bind fun t1=>((nu.f k ah ai aj ak).bind fun t2=>((agO.f k t1.f0 t1.f1 t1.f2 t1.f3 t2.f0 t2.f1 t2.f2 t2.f3).bind fun t3=>(if (!(decide (t3.2=0)))=true then (some (false,t3.2)) else (if (!t3.1)=true then (some (false,51)) else (ags.l0 (some (false,0)) (some (true,0)) t1.f0 t1.f1 t1.f2 t1.f3 t2.f0 t2.f1 t2.f2 t2.f3 k (-700)))))))
noncomputable def agQ.f (k:Nat) (aa:Int) (ac:Int) (ab:List (List P.S42)) (af:List P.S44) (a1:Int):Option ((List P.S42) × Int):=(if (decide (ac=0))=true then (some ([],0)) else ((agG.f k a1 ac).bind fun t1=>(if 0≤t1.2 then (if t1.2<(ab.length:Int) then (if (decide (((gL ab t1.2).length:Int)=0))=true then (some ([],0)) else (if aa=0 then none else (if (decide (t1.1>(wq ((wq (Int.tdiv 2199023255552 aa))+1))))=true then (some ([],20)) else (if aa=0 then none else (if (decide (t1.1<(wq ((wq (Int.tdiv (-2199023255552) aa)) - 1))))=true then (some ([],20)) else ((agy.f k (gL ab t1.2) (wq (t1.1*aa))).bind fun t2=>(some (t2.1,t2.2)))))))) else none) else none)))
noncomputable def agP.f (k:Nat) (aa:Int) (ab:Int) (ac:List (List P.S42)) (af:List P.S44):Option (P.S25):=(some (⟨aa,ab,ac,[]⟩:P.S25))
noncomputable def agK.f (k:Nat) (a0:Int) (a1:List P.S42) (a2:List P.S42):Option (List P.S42):=(if (decide (a0=1))=true then (if (decide ((a1.length:Int)=0))=true then (some a2) else (some a1)) else (if (decide (a0=2))=true then (if (decide ((a2.length:Int)=0))=true then (some []) else (if (decide (a0=3))=true then (if (decide ((a2.length:Int)>0))=true then (some []) else (some a1)) else (some a1))) else (if (decide (a0=3))=true then (if (decide ((a2.length:Int)>0))=true then (some []) else (some a1)) else (some a1))))
section
variable {γ:Type} (X0:(List Int)→Bool→Option γ) (c1:List Int) (c2:Int)
noncomputable def agz.l0T (R:(List Int)→Bool→Int→Option γ) (k:Nat) (v3:List Int) (v4:Bool) (v5:Int):Option γ:=(if (decide (v5<(c1.length:Int)))=true then (if 0≤v5 then (if v5<(c1.length:Int) then (if (decide ((gI c1 v5)=c2))=true then (if 0≤v5 then (if v5<(c1.length:Int) then (if v3.length+1≤17592186044416 then (R (v3++[(gI c1 v5)]) true (wq (v5+1))) else none) else none) else none) else (if (!v4)=true then (if 0≤v5 then (if v5<(c1.length:Int) then (if (decide ((gI c1 v5)>c2))=true then (if v3.length+1≤17592186044416 then (if 0≤v5 then (if v5<(c1.length:Int) then (if (v3++[c2]).length+1≤17592186044416 then (R ((v3++[c2])++[(gI c1 v5)]) true (wq (v5+1))) else none) else none) else none) else none) else (if 0≤v5 then (if v5<(c1.length:Int) then (if v3.length+1≤17592186044416 then (R (v3++[(gI c1 v5)]) v4 (wq (v5+1))) else none) else none) else none)) else none) else none) else (if 0≤v5 then (if v5<(c1.length:Int) then (if v3.length+1≤17592186044416 then (R (v3++[(gI c1 v5)]) v4 (wq (v5+1))) else none) else none) else none))) else none) else none) else (X0 v3 v4))
noncomputable def agz.l0:Nat→(List Int)→Bool→Int→Option γ
  | 0=>(fun _ _ _=>none)
  | k+1=>(fun v3 v4 v5=>(agz.l0T X0 c1 c2 (agz.l0 k) k v3 v4 v5))
end
noncomputable def agz.f (k:Nat) (a0:List Int) (a1:Int):Option (List Int):=(agz.l0 (fun y1 y2=>(if (!y2)=true then (if y1.length+1≤17592186044416 then (some (y1++[a1])) else none) else (some y1))) a0 a1 k [] false 0)
section
variable {γ:Type} (X0:(List Int)→Option γ) (c6:List P.S44)
noncomputable def afv.l0T (R:(List Int)→Int→Option γ) (k:Nat) (v1:List Int) (v2:Int):Option γ:=(if (decide (v2<(c6.length:Int)))=true then (if 0≤v2 then (if v2<(c6.length:Int) then ((agz.f k v1 (gG c6 v2).f0).bind fun t3=>(R t3 (wq (v2+1)))) else none) else none) else (X0 v1))
noncomputable def afv.l0:Nat→(List Int)→Int→Option γ
  | 0=>(fun _ _=>none)
  | k+1=>(fun v1 v2=>(afv.l0T X0 c6 (afv.l0 k) k v1 v2))
end
section
variable {γ:Type} (X0:(List Int)→Option γ) (c10:List P.S44)
noncomputable def afv.l1T (R:(List Int)→Int→Option γ) (k:Nat) (v1:List Int) (v2:Int):Option γ:=(if (decide (v2<(c10.length:Int)))=true then (if 0≤v2 then (if v2<(c10.length:Int) then ((agz.f k v1 (gG c10 v2).f0).bind fun t7=>(R t7 (wq (v2+1)))) else none) else none) else (X0 v1))
noncomputable def afv.l1:Nat→(List Int)→Int→Option γ
  | 0=>(fun _ _=>none)
  | k+1=>(fun v1 v2=>(afv.l1T X0 c10 (afv.l1 k) k v1 v2))
end
noncomputable def afv.f (k:Nat) (ac:Int) (af:Int) (ah:List (List P.S42)) (aa:List P.S44) (ai:Int) (aj:Int) (ak:List (List P.S42)) (ab:List P.S44):Option (List Int):=(afv.l0 (fun y4=>(afv.l1 (fun y8=>(some y8)) ab k y4 0)) aa k [] 0)
section
variable {γ:Type} (X0:Int→Option γ) (c5:List (List P.S42))
noncomputable def aeA.l0T (R:Int→Int→Option γ) (k:Nat) (v1:Int) (v2:Int):Option γ:=(if (decide (v2<(c5.length:Int)))=true then (if 0≤v2 then (if v2<(c5.length:Int) then (R (wq (v1+((gL c5 v2).length:Int))) (wq (v2+1))) else none) else none) else (X0 v1))
noncomputable def aeA.l0:Nat→Int→Int→Option γ
  | 0=>(fun _ _=>none)
  | k+1=>(fun v1 v2=>(aeA.l0T X0 c5 (aeA.l0 k) k v1 v2))
end
section
variable {γ:Type} (X0:Int→Option γ) (c6:List P.S44)
noncomputable def aeA.l1T (R:Int→Int→Option γ) (k:Nat) (v1:Int) (v2:Int):Option γ:=(if (decide (v2<(c6.length:Int)))=true then (if 0≤v2 then (if v2<(c6.length:Int) then (R (wq (v1+((gG c6 v2).f1.length:Int))) (wq (v2+1))) else none) else none) else (X0 v1))
noncomputable def aeA.l1:Nat→Int→Int→Option γ
  | 0=>(fun _ _=>none)
  | k+1=>(fun v1 v2=>(aeA.l1T X0 c6 (aeA.l1 k) k v1 v2))
end
noncomputable def aeA.f (k:Nat) (ac:Int) (af:Int) (aa:List (List P.S42)) (ab:List P.S44):Option (Int):=(aeA.l0 (fun y1=>(aeA.l1 (fun y2=>(some y2)) ab k y1 0)) aa k 0 0)
section
variable {γ:Type} (X0:Option γ) (X1:Option γ) (c1:List P.S42)
noncomputable def agw.l0T (R:Int→Option γ) (k:Nat) (v2:Int):Option γ:=(if (decide (v2<(c1.length:Int)))=true then (if 0≤v2 then (if v2<(c1.length:Int) then (if 0≤v2 then (if v2<(c1.length:Int) then (if (decide ((gS c1 v2).f0>(gS c1 v2).f1))=true then X0 else (if 0≤v2 then (if v2<(c1.length:Int) then (if (decide ((gS c1 v2).f0<(-1099511627776)))=true then X0 else (if 0≤v2 then (if v2<(c1.length:Int) then (if (decide ((gS c1 v2).f1>1099511627776))=true then X0 else (if (decide (v2>0))=true then (if 0≤v2 then (if v2<(c1.length:Int) then (if 0≤(wq (v2 - 1)) then (if (wq (v2 - 1))<(c1.length:Int) then (if (decide ((gS c1 v2).f0≤(gS c1 (wq (v2 - 1))).f1))=true then X0 else (if 0≤v2 then (if v2≤(c1.length:Int) then (if 0≤v2 then (if v2<(c1.length:Int) then ((agB.f k (c1.take (Int.toNat v2)) (wq ((gS c1 v2).f0 - 1))).bind fun t2=>(if t2=true then X0 else (R (wq (v2+1))))) else none) else none) else none) else none)) else none) else none) else none) else none) else (R (wq (v2+1))))) else none) else none)) else none) else none)) else none) else none) else none) else none) else X1)
noncomputable def agw.l0:Nat→Int→Option γ
  | 0=>(fun _=>none)
  | k+1=>(fun v2=>(agw.l0T X0 X1 c1 (agw.l0 k) k v2))
end
noncomputable def agw.f (k:Nat) (a0:List P.S42):Option (Bool):=(agw.l0 (some false) (some true) a0 k 0)
section
variable {γ:Type} (X0:Option γ) (X1:Option γ) (c4:List (List P.S42))
noncomputable def qw.l1T (R:Int→Option γ) (k:Nat) (v1:Int):Option γ:=(if (decide (v1<(c4.length:Int)))=true then (if 0≤v1 then (if v1<(c4.length:Int) then ((agw.f k (gL c4 v1)).bind fun t3=>(if (!t3)=true then X0 else (R (wq (v1+1))))) else none) else none) else X1)
noncomputable def qw.l1:Nat→Int→Option γ
  | 0=>(fun _=>none)
  | k+1=>(fun v1=>(qw.l1T X0 X1 c4 (qw.l1 k) k v1))
end
section
variable {γ:Type} (X0:Option γ) (X1:Option γ) (c5:List P.S44)
noncomputable def qw.l2T (R:Int→Option γ) (k:Nat) (v1:Int):Option γ:=(if (decide (v1<(c5.length:Int)))=true then (if 0≤v1 then (if v1<(c5.length:Int) then ((agw.f k (gG c5 v1).f1).bind fun t6=>(if (!t6)=true then X0 else (if (decide ((gG c5 v1).f0<(-1099511627776)))=true then X0 else (if (decide ((gG c5 v1).f0>1099511627776))=true then X0 else (if (decide (v1>0))=true then (if 0≤(wq (v1 - 1)) then (if (wq (v1 - 1))<(c5.length:Int) then (if (decide ((gG c5 v1).f0≤(gG c5 (wq (v1 - 1))).f0))=true then X0 else (R (wq (v1+1)))) else none) else none) else (R (wq (v1+1)))))))) else none) else none) else X1)
noncomputable def qw.l2:Nat→Int→Option γ
  | 0=>(fun _=>none)
  | k+1=>(fun v1=>(qw.l2T X0 X1 c5 (qw.l2 k) k v1))
end
section
variable {γ:Type} (X0:Int→Int→(List (List P.S42))→(List P.S44)→Option γ) (X1:Int→Int→(List (List P.S42))→(List P.S44)→Option γ)
noncomputable def qw.l0 (k:Nat) (v1:Int) (v2:Int) (v3:List (List P.S42)) (v4:List P.S44):Option γ:=(qw.l1 (X0 v1 v2 v3 v4) (qw.l2 (X0 v1 v2 v3 v4) (X1 v1 v2 v3 v4) v4 k 0) v3 k 0)
end
noncomputable def qw.f (k:Nat) (aa:Int) (ab:Int) (ac:List (List P.S42)) (af:List P.S44):Option (Bool):=(if (!(decide ((ac.length:Int)=ab)))=true then (some false) else (if (decide (aa<0))=true then (some false) else (if (decide (aa>1099511627776))=true then (some false) else (if (decide (ab=0))=true then (if (!(decide (aa=0)))=true then (some false) else (if (!(decide (ab=0)))=true then (if (decide (aa=0))=true then (some false) else (qw.l0 (fun y7 y8 y9 ah=>(some false)) (fun ai aj y13 ak=>(some true)) k aa ab ac af)) else (qw.l0 (fun am ao ap aq=>(some false)) (fun au y20 y21 y22=>(some true)) k aa ab ac af))) else (if (!(decide (ab=0)))=true then (if (decide (aa=0))=true then (some false) else (qw.l0 (fun y23 y24 y25 aw=>(some false)) (fun y27 y28 y29 ax=>(some true)) k aa ab ac af)) else (qw.l0 (fun y31 y32 ay y34=>(some false)) (fun az aA aB y38=>(some true)) k aa ab ac af))))))
section
variable {γ:Type} (X0:Option γ) (X1:Option γ) (c1:List P.S42) (c2:List P.S42) (c3:Int)
noncomputable def aa2.l1T (R:Int→Option γ) (k:Nat) (v4:Int):Option γ:=(if (decide (v4<(c2.length:Int)))=true then (if 0≤c3 then (if c3<(c1.length:Int) then (if 0≤v4 then (if v4<(c2.length:Int) then (if (decide ((gS c1 c3).f1≥(gS c2 v4).f0))=true then X0 else (R (wq (v4+1)))) else none) else none) else none) else none) else X1)
noncomputable def aa2.l1:Nat→Int→Option γ
  | 0=>(fun _=>none)
  | k+1=>(fun v4=>(aa2.l1T X0 X1 c1 c2 c3 (aa2.l1 k) k v4))
end
section
variable {γ:Type} (X0:Option γ) (X1:Option γ) (c1:List P.S42) (c2:List P.S42)
noncomputable def aa2.l0T (R:Int→Option γ) (k:Nat) (v3:Int):Option γ:=(if (decide (v3<(c1.length:Int)))=true then (aa2.l1 X0 (R (wq (v3+1))) c1 c2 v3 k 0) else X1)
noncomputable def aa2.l0:Nat→Int→Option γ
  | 0=>(fun _=>none)
  | k+1=>(fun v3=>(aa2.l0T X0 X1 c1 c2 (aa2.l0 k) k v3))
end
noncomputable def aa2.f (k:Nat) (a0:List P.S42) (a1:List P.S42):Option (Bool):=(aa2.l0 (some false) (some true) a0 a1 k 0)
section
variable {γ:Type} (X0:Int→(List P.S42)→Option γ) (X1:Int→(List P.S42)→Option γ) (c6:List (List P.S42))
noncomputable def agv.l0T (R:Int→(List P.S42)→Int→Option γ) (k:Nat) (v1:Int) (v2:List P.S42) (v3:Int):Option γ:=(if (decide (v3<(c6.length:Int)))=true then (if 0≤v3 then (if v3<(c6.length:Int) then ((aa2.f k v2 (gL c6 v3)).bind fun t3=>(if (!t3)=true then (X0 v1 v2) else (if (decide (((gL c6 v3).length:Int)>0))=true then (if (decide (v1<0))=true then (R v3 (gL c6 v3) (wq (v3+1))) else (R v1 (gL c6 v3) (wq (v3+1)))) else (R v1 v2 (wq (v3+1)))))) else none) else none) else (X1 v1 v2))
noncomputable def agv.l0:Nat→Int→(List P.S42)→Int→Option γ
  | 0=>(fun _ _ _=>none)
  | k+1=>(fun v1 v2 v3=>(agv.l0T X0 X1 c6 (agv.l0 k) k v1 v2 v3))
end
noncomputable def agv.f (k:Nat) (ab:Int) (ac:Int) (aa:List (List P.S42)) (af:List P.S44):Option (Bool):=(agv.l0 (fun y4 y5=>(some false)) (fun y6 y7=>(if (decide (y6<0))=true then (some true) else (if 0≤(wq ((y7.length:Int) - 1)) then (if (wq ((y7.length:Int) - 1))<(y7.length:Int) then (if 0≤y6 then (if y6<(aa.length:Int) then (if 0<((gL aa y6).length:Int) then (some (decide ((gS y7 (wq ((y7.length:Int) - 1))).f1<(wq ((gS (gL aa y6) 0).f0+ab))))) else none) else none) else none) else none) else none))) aa k (-1) [] 0)
noncomputable def agT.f (k:Nat) (aa:Int) (ab:Int) (ac:List (List P.S42)) (af:List P.S44):Option (P.S25):=(some (⟨aa,ab,ac,[]⟩:P.S25))
noncomputable def agR.f (k:Nat) (ac:Int) (aa:Int) (af:List (List P.S42)) (ab:List P.S44):Option (Int):=(some (wq ((wq (aa*(wq ((ab.length:Int)+1))))+2)))
noncomputable def agS.f (k:Nat) (aa:Int) (ab:Int) (ac:List (List P.S42)) (af:List P.S44) (a1:Int):Option (Bool):=((agA.f k aa ab ac af a1).bind fun t1=>(some (decide ((t1.1.length:Int)>0))))
section
variable {γ:Type} (X0:Bool→Int→Option γ) (c1:Int) (c2:Int) (c9:List P.S44)
noncomputable def r9.l0T (R:Bool→Int→Int→Option γ) (k:Nat) (v3:Bool) (v4:Int) (v5:Int):Option γ:=(if (decide (v5<(c9.length:Int)))=true then (if 0≤v5 then (if v5<(c9.length:Int) then (if (decide (((gG c9 v5).f1.length:Int)>0))=true then (if (decide ((wq ((wq ((gG c9 v5).f0 - c1))*c2))≥0))=true then (if (!v3)=true then (R true (gG c9 v5).f0 (wq (v5+1))) else (if (decide ((wq ((wq ((gG c9 v5).f0 - v4))*c2))<0))=true then (R true (gG c9 v5).f0 (wq (v5+1))) else (R v3 v4 (wq (v5+1))))) else (R v3 v4 (wq (v5+1)))) else (R v3 v4 (wq (v5+1)))) else none) else none) else (X0 v3 v4))
noncomputable def r9.l0:Nat→Bool→Int→Int→Option γ
  | 0=>(fun _ _ _=>none)
  | k+1=>(fun v3 v4 v5=>(r9.l0T X0 c1 c2 c9 (r9.l0 k) k v3 v4 v5))
end
section
variable {γ:Type} (X0:Bool→Int→Option γ) (c1:Int) (c2:Int) (c6:Int) (c7:Int) (c8:List (List P.S42)) (c9:List P.S44)
noncomputable def r9.l1T (R:Bool→Int→Int→Option γ) (k:Nat) (v3:Bool) (v4:Int) (v5:Int):Option γ:=((agR.f k c6 c7 c8 c9).bind fun t7=>(if (decide (v5<t7))=true then (if (decide ((wq (c1+(wq (v5*c2))))<(-1099511627776)))=true then (X0 v3 v4) else (if (decide ((wq (c1+(wq (v5*c2))))>1099511627776))=true then (X0 v3 v4) else ((agS.f k c6 c7 c8 c9 (wq (c1+(wq (v5*c2))))).bind fun t8=>(if t8=true then (if (!v3)=true then (R true (wq (c1+(wq (v5*c2)))) (wq (v5+1))) else (if (decide ((wq ((wq ((wq (c1+(wq (v5*c2)))) - v4))*c2))<0))=true then (R true (wq (c1+(wq (v5*c2)))) (wq (v5+1))) else (R v3 v4 (wq (v5+1))))) else (R v3 v4 (wq (v5+1))))))) else (X0 v3 v4)))
noncomputable def r9.l1:Nat→Bool→Int→Int→Option γ
  | 0=>(fun _ _ _=>none)
  | k+1=>(fun v3 v4 v5=>(r9.l1T X0 c1 c2 c6 c7 c8 c9 (r9.l1 k) k v3 v4 v5))
end
noncomputable def r9.f (k:Nat) (ab:Int) (ac:Int) (af:List (List P.S42)) (aa:List P.S44) (a1:Int) (a2:Int):Option (Int × Bool):=(r9.l0 (fun y1 y2=>(r9.l1 (fun y9 ah=>(some (ah,y9))) a1 a2 ab ac af aa k y1 y2 0)) a1 a2 aa k false 0 0)
noncomputable def agI.f (k:Nat) (aa:Int) (ab:Int) (ac:List (List P.S42)) (af:List P.S44) (a1:Int):Option (Int × Bool):=(if (decide (a1≤(-1099511627776)))=true then (some (0,false)) else (if (decide (a1>1099511627776))=true then ((r9.f k aa ab ac af 1099511627776 (-1)).bind fun t1=>(some (t1.1,t1.2))) else ((r9.f k aa ab ac af (wq (a1 - 1)) (-1)).bind fun t2=>(some (t2.1,t2.2)))))
noncomputable def agH.f (k:Nat) (aa:Int) (ab:Int) (ac:List (List P.S42)) (af:List P.S44) (a1:Int):Option (Int × Bool):=(if (decide (a1≥1099511627776))=true then (some (0,false)) else (if (decide (a1<(-1099511627776)))=true then ((r9.f k aa ab ac af (-1099511627776) 1).bind fun t1=>(some (t1.1,t1.2))) else ((r9.f k aa ab ac af (wq (a1+1)) 1).bind fun t2=>(some (t2.1,t2.2)))))
section
variable {γ:Type} (X0:Option γ) (X1:Option γ) (c1:List Int) (c4:Int) (c5:Int) (c6:List (List P.S42)) (c7:List P.S44)
noncomputable def agr.l0T (R:(List P.S42)→Int→Option γ) (k:Nat) (v2:List P.S42) (v3:Int):Option γ:=(if (decide (v3<(c1.length:Int)))=true then (if 0≤v3 then (if v3<(c1.length:Int) then ((agF.f k c4 c5 c6 c7 (gI c1 v3)).bind fun t5=>(if (!(decide (t5.2=0)))=true then X0 else ((aa2.f k v2 t5.1).bind fun t6=>(if (!t6)=true then X0 else (if (decide ((t5.1.length:Int)>0))=true then (R t5.1 (wq (v3+1))) else (R v2 (wq (v3+1)))))))) else none) else none) else X1)
noncomputable def agr.l0:Nat→(List P.S42)→Int→Option γ
  | 0=>(fun _ _=>none)
  | k+1=>(fun v2 v3=>(agr.l0T X0 X1 c1 c4 c5 c6 c7 (agr.l0 k) k v2 v3))
end
noncomputable def agr.f (k:Nat) (aa:Int) (ab:Int) (ac:List (List P.S42)) (af:List P.S44) (a1:List Int):Option (Bool):=(agr.l0 (some false) (some true) a1 aa ab ac af k [] 0)
section
variable {γ:Type} (X0:Option γ) (X1:Option γ) (c2:Int) (c3:Int) (c4:List (List P.S42)) (c5:List P.S44)
noncomputable def aa4.l1T (R:Int→Option γ) (k:Nat) (v1:Int):Option γ:=(if (decide (v1<(c5.length:Int)))=true then (if 0≤v1 then (if v1<(c5.length:Int) then ((agI.f k c2 c3 c4 c5 (gG c5 v1).f0).bind fun aa=>(if aa.2=true then (if 0≤v1 then (if v1<(c5.length:Int) then (if 0≤v1 then (if v1<(c5.length:Int) then ((agH.f k c2 c3 c4 c5 (gG c5 v1).f0).bind fun t20=>(if t20.2=true then ((agr.f k c2 c3 c4 c5 [aa.1,(gG c5 v1).f0,t20.1]).bind fun t21=>(if (!t21)=true then X0 else (R (wq (v1+1))))) else ((agr.f k c2 c3 c4 c5 [aa.1,(gG c5 v1).f0]).bind fun t22=>(if (!t22)=true then X0 else (R (wq (v1+1))))))) else none) else none) else none) else none) else (if 0≤v1 then (if v1<(c5.length:Int) then (if 0≤v1 then (if v1<(c5.length:Int) then ((agH.f k c2 c3 c4 c5 (gG c5 v1).f0).bind fun t23=>(if t23.2=true then ((agr.f k c2 c3 c4 c5 [(gG c5 v1).f0,t23.1]).bind fun t24=>(if (!t24)=true then X0 else (R (wq (v1+1))))) else ((agr.f k c2 c3 c4 c5 [(gG c5 v1).f0]).bind fun t25=>(if (!t25)=true then X0 else (R (wq (v1+1))))))) else none) else none) else none) else none))) else none) else none) else X1)
noncomputable def aa4.l1:Nat→Int→Option γ
  | 0=>(fun _=>none)
  | k+1=>(fun v1=>(aa4.l1T X0 X1 c2 c3 c4 c5 (aa4.l1 k) k v1))
end
section
variable {γ:Type} (X0:Int→Int→(List (List P.S42))→(List P.S44)→Option γ) (X1:Int→Int→(List (List P.S42))→(List P.S44)→Option γ)
noncomputable def aa4.l0 (k:Nat) (v1:Int) (v2:Int) (v3:List (List P.S42)) (v4:List P.S44):Option γ:=((qw.f k v1 v2 v3 v4).bind fun t2=>(if (!t2)=true then (X0 v1 v2 v3 v4) else ((agT.f k v1 v2 v3 v4).bind fun t3=>((agv.f k t3.f0 t3.f1 t3.f2 t3.f3).bind fun t4=>(if (!t4)=true then (X0 v1 v2 v3 v4) else (aa4.l1 (X0 v1 v2 v3 v4) (X1 v1 v2 v3 v4) v1 v2 v3 v4 k 0))))))
end
noncomputable def aa4.f (k:Nat) (ac:Int) (af:Int) (aa:List (List P.S42)) (ab:List P.S44):Option (Int):=(if (decide ((aa.length:Int)>6000))=true then (some 3) else (if (decide ((ab.length:Int)>6000))=true then (some 3) else ((aeA.f k ac af aa ab).bind fun t1=>(if (decide (t1>60000))=true then (some 3) else (aa4.l0 (fun ah y27 y28 y29=>(some 50)) (fun ai y31 y32 aj=>(some 0)) k ac af aa ab)))))
section
variable {γ:Type} (X0:(List (List P.S42))→Option γ) (c1:Int) (c2:Int) (c4:Int) (c5:Int) (c6:List (List P.S42)) (c7:List P.S44) (c8:Int) (c9:Int) (c10:List (List P.S42)) (c11:List P.S44)
noncomputable def aev.l0T (R:Int→(List (List P.S42))→Option γ) (k:Nat) (v3:Int) (v14:List (List P.S42)):Option γ:=(if (decide (v3<c2))=true then ((agP.f k c4 c5 c6 c7).bind fun aa=>((agQ.f k aa.f0 aa.f1 aa.f2 aa.f3 v3).bind fun t16=>((agP.f k c8 c9 c10 c11).bind fun t17=>((agQ.f k t17.f0 t17.f1 t17.f2 t17.f3 v3).bind fun ab=>((agK.f k c1 t16.1 ab.1).bind fun ac=>(if v14.length+1≤5864062014805 then (R (wq (v3+1)) (v14++[ac])) else none)))))) else (X0 v14))
noncomputable def aev.l0:Nat→Int→(List (List P.S42))→Option γ
  | 0=>(fun _ _=>none)
  | k+1=>(fun v3 v14=>(aev.l0T X0 c1 c2 c4 c5 c6 c7 c8 c9 c10 c11 (aev.l0 k) k v3 v14))
end
section
variable {γ:Type} (X0:(List P.S44)→Option γ) (c1:Int) (c2:List Int) (c4:Int) (c5:Int) (c6:List (List P.S42)) (c7:List P.S44) (c8:Int) (c9:Int) (c10:List (List P.S42)) (c11:List P.S44)
noncomputable def aev.l1T (R:Int→(List P.S44)→Option γ) (k:Nat) (v3:Int) (v15:List P.S44):Option γ:=(if (decide (v3<(c2.length:Int)))=true then (if 0≤v3 then (if v3<(c2.length:Int) then ((agF.f k c4 c5 c6 c7 (gI c2 v3)).bind fun t28=>(if 0≤v3 then (if v3<(c2.length:Int) then ((agF.f k c8 c9 c10 c11 (gI c2 v3)).bind fun t29=>(if 0≤v3 then (if v3<(c2.length:Int) then ((agK.f k c1 t28.1 t29.1).bind fun t30=>(if v15.length+1≤4398046511104 then (R (wq (v3+1)) (v15++[(⟨(gI c2 v3),t30⟩:P.S44)])) else none)) else none) else none)) else none) else none)) else none) else none) else (X0 v15))
noncomputable def aev.l1:Nat→Int→(List P.S44)→Option γ
  | 0=>(fun _ _=>none)
  | k+1=>(fun v3 v15=>(aev.l1T X0 c1 c2 c4 c5 c6 c7 c8 c9 c10 c11 (aev.l1 k) k v3 v15))
end
noncomputable def aev.f (k:Nat) (a0:Int) (aa:Int) (ab:Int) (ac:List (List P.S42)) (af:List P.S44) (ah:Int) (ai:Int) (aj:List (List P.S42)) (ak:List P.S44):Option (P.S25 × Int):=((ags.f k aa ab ac af ah ai aj ak).bind fun t1=>(if (!(decide (t1.2=0)))=true then (some ((⟨0,0,[],[]⟩:P.S25),t1.2)) else (if (!t1.1)=true then (some ((⟨0,0,[],[]⟩:P.S25),51)) else ((nu.f k aa ab ac af).bind fun t2=>((nu.f k ah ai aj ak).bind fun t3=>((agE.f k t2.f0 t2.f1 t2.f2 t2.f3 t3.f0 t3.f1 t3.f2 t3.f3).bind fun t4=>(aev.l0 (fun y20=>((afv.f k t2.f0 t2.f1 t2.f2 t2.f3 t3.f0 t3.f1 t3.f2 t3.f3).bind fun t21=>(aev.l1 (fun y31=>((aa4.f k t4.2.1 t4.1 y20 y31).bind fun t32=>(if (decide (t32=3))=true then (some ((⟨0,0,[],[]⟩:P.S25),3)) else (if (!(decide (t32=0)))=true then (some ((⟨0,0,[],[]⟩:P.S25),51)) else ((nu.f k t4.2.1 t4.1 y20 y31).bind fun t33=>(some (t33,0))))))) a0 t21 t2.f0 t2.f1 t2.f2 t2.f3 t3.f0 t3.f1 t3.f2 t3.f3 k 0 []))) a0 t4.1 t2.f0 t2.f1 t2.f2 t2.f3 t3.f0 t3.f1 t3.f2 t3.f3 k 0 [])))))))
section
variable {γ:Type} (X0:Option γ) (X1:Option γ) (c2:Int) (c3:Int) (c4:List (List P.S42)) (c5:List P.S44) (c6:Int) (c7:Int) (c8:List (List P.S42)) (c9:List P.S44) (c10:Int) (c11:Int) (c12:List (List P.S42)) (c13:List P.S44) (c14:Int) (c15:Int) (c16:List (List P.S42)) (c17:List P.S44)
noncomputable def afx.l0T (R:Int→Option γ) (k:Nat) (v1:Int):Option γ:=(if (decide (v1≤3))=true then ((dA.f k c10 c11 c12 c13 c14 c15 c16 c17).bind fun t21=>(if (decide (v1=2))=true then ((dJ.f k c10 c11 c12 c13 c14 c15 c16 c17).bind fun t22=>((aev.f k v1 c2 c3 c4 c5 c6 c7 c8 c9).bind fun t23=>(if (!(decide (t22.2=t23.2)))=true then X0 else ((cZ.f k t22.1.f0 t22.1.f1 t22.1.f2 t22.1.f3 t23.1.f0 t23.1.f1 t23.1.f2 t23.1.f3).bind fun t24=>(if (!t24)=true then X0 else (R (wq (v1+1)))))))) else (if (decide (v1=3))=true then ((dG.f k c10 c11 c12 c13 c14 c15 c16 c17).bind fun t25=>((aev.f k v1 c2 c3 c4 c5 c6 c7 c8 c9).bind fun t26=>(if (!(decide (t25.2=t26.2)))=true then X0 else ((cZ.f k t25.1.f0 t25.1.f1 t25.1.f2 t25.1.f3 t26.1.f0 t26.1.f1 t26.1.f2 t26.1.f3).bind fun t27=>(if (!t27)=true then X0 else (R (wq (v1+1)))))))) else ((aev.f k v1 c2 c3 c4 c5 c6 c7 c8 c9).bind fun t28=>(if (!(decide (t21.2=t28.2)))=true then X0 else ((cZ.f k t21.1.f0 t21.1.f1 t21.1.f2 t21.1.f3 t28.1.f0 t28.1.f1 t28.1.f2 t28.1.f3).bind fun t29=>(if (!t29)=true then X0 else (R (wq (v1+1)))))))))) else X1)
noncomputable def afx.l0:Nat→Int→Option γ
  | 0=>(fun _=>none)
  | k+1=>(fun v1=>(afx.l0T X0 X1 c2 c3 c4 c5 c6 c7 c8 c9 c10 c11 c12 c13 c14 c15 c16 c17 (afx.l0 k) k v1))
end
noncomputable def afx.f (k:Nat) (aa:Int) (ab:Int) (ac:List (List P.S42)) (af:List P.S44) (ah:Int) (ai:Int) (aj:List (List P.S42)) (ak:List P.S44):Option (Bool):=((dw.f k aa ab ac af).bind fun t1=>(if (!t1)=true then ((eF.f k).bind fun t2=>(some t2)) else ((dw.f k ah ai aj ak).bind fun t3=>(if (!t3)=true then ((eF.f k).bind fun t4=>(some t4)) else ((aa3.f k aa ab ac af).bind fun t5=>((aa3.f k ah ai aj ak).bind fun t6=>((agV.f k t5.f0 t5.f1 t5.f2 t5.f3 t6.f0 t6.f1 t6.f2 t6.f3).bind fun t7=>((ags.f k aa ab ac af ah ai aj ak).bind fun t8=>(if (!(t7.1==t8.1))=true then (some false) else (if (!(decide (t7.2=t8.2)))=true then (some false) else (afx.l0 (some false) ((cZ.f k t5.f0 t5.f1 t5.f2 t5.f3 aa ab ac af).bind fun t30=>(if t30=true then ((cZ.f k t6.f0 t6.f1 t6.f2 t6.f3 ah ai aj ak).bind fun t31=>(if t31=true then ((eF.f k).bind fun t32=>(some t32)) else (some false))) else (some false))) aa ab ac af ah ai aj ak t5.f0 t5.f1 t5.f2 t5.f3 t6.f0 t6.f1 t6.f2 t6.f3 k 1)))))))))))
section
variable {γ:Type} (X0:Bool→Int→Int→(List (List P.S42))→(List P.S44)→Int→Int→(List (List P.S42))→(List P.S44)→Int→Int→(List (List P.S42))→(List P.S44)→Int→Int→(List (List P.S42))→(List P.S44)→(List P.S44)→(List P.S44)→Int→Int→(List (List P.S42))→(List P.S44)→Int→Int→(List (List P.S42))→(List P.S44)→Option γ) (X1:Int→Int→(List (List P.S42))→(List P.S44)→Int→Int→(List (List P.S42))→(List P.S44)→Int→Int→(List (List P.S42))→(List P.S44)→Int→Int→(List (List P.S42))→(List P.S44)→(List P.S44)→(List P.S44)→Int→Int→(List (List P.S42))→(List P.S44)→Int→Int→(List (List P.S42))→(List P.S44)→Option γ)
noncomputable def afz.l2 (k:Nat) (v1:Int) (v2:Int) (v3:List (List P.S42)) (v4:List P.S44) (v5:Int) (v6:Int) (v7:List (List P.S42)) (v8:List P.S44) (v9:Int) (v10:Int) (v11:List (List P.S42)) (v12:List P.S44) (v13:Int) (v14:Int) (v15:List (List P.S42)) (v16:List P.S44):Option γ:=((dA.f k 0 0 [] [(⟨1,[(⟨5,5⟩:P.S42)]⟩:P.S44)] 0 0 [] [(⟨2,[(⟨3,3⟩:P.S42)]⟩:P.S44)]).bind fun t12=>((dG.f k 0 0 [] [(⟨1,[(⟨5,5⟩:P.S42)]⟩:P.S44)] 0 0 [] [(⟨2,[(⟨3,3⟩:P.S42)]⟩:P.S44)]).bind fun aa=>(if (decide (t12.2=51))=true then (if (decide (aa.2=0))=true then ((cZ.f k aa.1.f0 aa.1.f1 aa.1.f2 aa.1.f3 0 0 [] [(⟨1,[(⟨5,5⟩:P.S42)]⟩:P.S44)]).bind fun ab=>(if ab=true then ((eF.f k).bind fun ac=>(X0 ac v1 v2 v3 v4 v5 v6 v7 v8 v9 v10 v11 v12 v13 v14 v15 v16 [(⟨1,[(⟨5,5⟩:P.S42)]⟩:P.S44)] [(⟨2,[(⟨3,3⟩:P.S42)]⟩:P.S44)] t12.1.f0 t12.1.f1 t12.1.f2 t12.1.f3 aa.1.f0 aa.1.f1 aa.1.f2 aa.1.f3)) else (X1 v1 v2 v3 v4 v5 v6 v7 v8 v9 v10 v11 v12 v13 v14 v15 v16 [(⟨1,[(⟨5,5⟩:P.S42)]⟩:P.S44)] [(⟨2,[(⟨3,3⟩:P.S42)]⟩:P.S44)] t12.1.f0 t12.1.f1 t12.1.f2 t12.1.f3 aa.1.f0 aa.1.f1 aa.1.f2 aa.1.f3))) else (X1 v1 v2 v3 v4 v5 v6 v7 v8 v9 v10 v11 v12 v13 v14 v15 v16 [(⟨1,[(⟨5,5⟩:P.S42)]⟩:P.S44)] [(⟨2,[(⟨3,3⟩:P.S42)]⟩:P.S44)] t12.1.f0 t12.1.f1 t12.1.f2 t12.1.f3 aa.1.f0 aa.1.f1 aa.1.f2 aa.1.f3)) else (X1 v1 v2 v3 v4 v5 v6 v7 v8 v9 v10 v11 v12 v13 v14 v15 v16 [(⟨1,[(⟨5,5⟩:P.S42)]⟩:P.S44)] [(⟨2,[(⟨3,3⟩:P.S42)]⟩:P.S44)] t12.1.f0 t12.1.f1 t12.1.f2 t12.1.f3 aa.1.f0 aa.1.f1 aa.1.f2 aa.1.f3))))
end
section
variable {γ:Type} (X0:Int→Int→(List (List P.S42))→(List P.S44)→Int→Int→(List (List P.S42))→(List P.S44)→Int→Int→(List (List P.S42))→(List P.S44)→Int→Int→(List (List P.S42))→(List P.S44)→Option γ) (X1:Bool→Int→Int→(List (List P.S42))→(List P.S44)→Int→Int→(List (List P.S42))→(List P.S44)→Int→Int→(List (List P.S42))→(List P.S44)→Int→Int→(List (List P.S42))→(List P.S44)→(List P.S44)→(List P.S44)→Int→Int→(List (List P.S42))→(List P.S44)→Int→Int→(List (List P.S42))→(List P.S44)→Option γ) (X2:Int→Int→(List (List P.S42))→(List P.S44)→Int→Int→(List (List P.S42))→(List P.S44)→Int→Int→(List (List P.S42))→(List P.S44)→Int→Int→(List (List P.S42))→(List P.S44)→(List P.S44)→(List P.S44)→Int→Int→(List (List P.S42))→(List P.S44)→Int→Int→(List (List P.S42))→(List P.S44)→Option γ)
noncomputable def afz.l1 (k:Nat) (v1:Bool) (v2:Int) (v3:Int) (v4:List (List P.S42)) (v5:List P.S44) (v6:Int) (v7:Int) (v8:List (List P.S42)) (v9:List P.S44):Option γ:=((dA.f k v2 v3 v4 v5 v6 v7 v8 v9).bind fun t9=>((dJ.f k v2 v3 v4 v5 v6 v7 v8 v9).bind fun t10=>(if (!v1)=true then (if (!(decide (t9.2=51)))=true then (X0 v2 v3 v4 v5 v6 v7 v8 v9 t9.1.f0 t9.1.f1 t9.1.f2 t9.1.f3 t10.1.f0 t10.1.f1 t10.1.f2 t10.1.f3) else (if (!(decide (t10.2=51)))=true then (X0 v2 v3 v4 v5 v6 v7 v8 v9 t9.1.f0 t9.1.f1 t9.1.f2 t9.1.f3 t10.1.f0 t10.1.f1 t10.1.f2 t10.1.f3) else ((cZ.f k t9.1.f0 t9.1.f1 t9.1.f2 t9.1.f3 0 0 [] []).bind fun t11=>(if (!t11)=true then (X0 v2 v3 v4 v5 v6 v7 v8 v9 t9.1.f0 t9.1.f1 t9.1.f2 t9.1.f3 t10.1.f0 t10.1.f1 t10.1.f2 t10.1.f3) else (afz.l2 X1 X2 k v2 v3 v4 v5 v6 v7 v8 v9 t9.1.f0 t9.1.f1 t9.1.f2 t9.1.f3 t10.1.f0 t10.1.f1 t10.1.f2 t10.1.f3))))) else (afz.l2 X1 X2 k v2 v3 v4 v5 v6 v7 v8 v9 t9.1.f0 t9.1.f1 t9.1.f2 t9.1.f3 t10.1.f0 t10.1.f1 t10.1.f2 t10.1.f3))))
end
section
variable {γ:Type} (X0:Int→Int→(List (List P.S42))→(List P.S44)→Int→Int→(List (List P.S42))→(List P.S44)→Option γ) (X1:Int→Int→(List (List P.S42))→(List P.S44)→Int→Int→(List (List P.S42))→(List P.S44)→Int→Int→(List (List P.S42))→(List P.S44)→Int→Int→(List (List P.S42))→(List P.S44)→Option γ) (X2:Bool→Int→Int→(List (List P.S42))→(List P.S44)→Int→Int→(List (List P.S42))→(List P.S44)→Int→Int→(List (List P.S42))→(List P.S44)→Int→Int→(List (List P.S42))→(List P.S44)→(List P.S44)→(List P.S44)→Int→Int→(List (List P.S42))→(List P.S44)→Int→Int→(List (List P.S42))→(List P.S44)→Option γ) (X3:Int→Int→(List (List P.S42))→(List P.S44)→Int→Int→(List (List P.S42))→(List P.S44)→Int→Int→(List (List P.S42))→(List P.S44)→Int→Int→(List (List P.S42))→(List P.S44)→(List P.S44)→(List P.S44)→Int→Int→(List (List P.S42))→(List P.S44)→Int→Int→(List (List P.S42))→(List P.S44)→Option γ)
noncomputable def afz.l0 (k:Nat) (v1:Int) (v2:Int) (v3:Int) (v4:List (List P.S42)) (v5:List P.S44) (v6:Int) (v7:Int) (v8:List (List P.S42)) (v9:List P.S44):Option γ:=((fU.f k v2 v3 v4 v5 (Int.tmod (wq v1) 300)).bind fun t5=>((fU.f k v6 v7 v8 v9 (Int.tmod (wq v1) 300)).bind fun t6=>((agV.f k v2 v3 v4 v5 v6 v7 v8 v9).bind fun t7=>(if (decide (t5.2=0))=true then (if (decide (t6.2=0))=true then (if (decide ((t5.1.length:Int)>0))=true then (if (decide ((t6.1.length:Int)>0))=true then ((gX.f k t5.1 t6.1).bind fun t8=>(if (!t8)=true then (if t7.1=true then (X0 v2 v3 v4 v5 v6 v7 v8 v9) else (if (!(decide (t7.2=0)))=true then (if (!(decide (t7.2=51)))=true then (X0 v2 v3 v4 v5 v6 v7 v8 v9) else (afz.l1 X1 X2 X3 k t7.1 v2 v3 v4 v5 v6 v7 v8 v9)) else (afz.l1 X1 X2 X3 k t7.1 v2 v3 v4 v5 v6 v7 v8 v9))) else (afz.l1 X1 X2 X3 k t7.1 v2 v3 v4 v5 v6 v7 v8 v9))) else (afz.l1 X1 X2 X3 k t7.1 v2 v3 v4 v5 v6 v7 v8 v9)) else (afz.l1 X1 X2 X3 k t7.1 v2 v3 v4 v5 v6 v7 v8 v9)) else (afz.l1 X1 X2 X3 k t7.1 v2 v3 v4 v5 v6 v7 v8 v9)) else (afz.l1 X1 X2 X3 k t7.1 v2 v3 v4 v5 v6 v7 v8 v9)))))
end
section
variable {γ:Type} (X0:(List (List P.S42))→Option γ) (c1:List (List P.S42)) (c2:Int)
end
section
variable {γ:Type} (X0:(List P.S44)→Option γ) (c1:List P.S44) (c2:Int)
end
section
variable {γ:Type} (X0:(List (List P.S42))→Option γ) (c1:Int) (c3:Int) (c11:Nat)
end
section
variable {γ:Type} (X0:(List P.S44)→Option γ) (c1:Int) (c2:Int) (c3:Nat) (c4:Int) (c11:Int) (c13:Nat)
end
section
variable {γ:Type} (X0:Int→Option γ) (X1:Option γ) (c1:List (List P.S42)) (c2:Int)
end
section
variable {γ:Type} (X0:Int→Bool→Option γ) (X1:Bool→Option γ) (c2:Int) (c4:Int) (c5:Int) (c6:List (List P.S42)) (c7:List P.S44) (c8:Int) (c9:Int) (c10:List (List P.S42)) (c11:List P.S44)
end
section
variable {γ:Type} (X0:(List Int)→Option γ) (c2:List P.S44) (c3:Int)
end
section
variable {γ:Type} (X0:Option γ) (X1:Option γ) (c1:List Int) (c2:Int) (c4:Int) (c5:Int) (c6:List (List P.S42)) (c7:List P.S44) (c8:Int) (c9:Int) (c10:List (List P.S42)) (c11:List P.S44)
end
section
variable {γ:Type} (Y0:Int→Bool→Bool→(List P.S42)→Bool→Int→(List P.S42)→(List P.S42)→((List P.S42)→Bool→Int→(List P.S42)→(List P.S42)→Option γ)→Option γ) (X0:(List P.S42)→Bool→Int→(List P.S42)→(List P.S42)→Option γ)
end
section
variable {γ:Type} (Y0:Int→Bool→Bool→(List P.S42)→Bool→Int→(List P.S42)→(List P.S42)→((List P.S42)→Bool→Int→(List P.S42)→(List P.S42)→Option γ)→Option γ) (X0:(List P.S42)→Bool→Int→(List P.S42)→(List P.S42)→Option γ)
end
section
variable {γ:Type} (Y0:Int→Bool→Bool→(List P.S42)→Bool→Int→(List P.S42)→(List P.S42)→((List P.S42)→Bool→Int→(List P.S42)→(List P.S42)→Option γ)→Option γ) (X0:(List P.S42)→Bool→Int→(List P.S42)→(List P.S42)→Option γ)
end
section
variable {γ:Type} (X0:Option γ) (X1:Option γ) (c1:List (List P.S42)) (c2:List (List P.S42)) (c3:Int)
end
section
variable {γ:Type} (X0:Option γ) (X1:Option γ) (c1:List P.S44) (c2:List P.S44) (c3:Int)
end
section
variable {γ:Type} (X0:(List Int)→Option γ) (c2:List P.S44) (c3:Int)
end
section
variable {γ:Type} (X0:Option γ) (X1:Option γ) (c1:List Int) (c2:Int) (c8:Int) (c9:Int) (c10:List (List P.S42)) (c11:List P.S44) (c12:Int) (c13:Int) (c14:List (List P.S42)) (c15:List P.S44) (c16:Int) (c17:Int) (c18:List (List P.S42)) (c19:List P.S44) (c20:Int) (c21:Int) (c22:List (List P.S42)) (c23:List P.S44) (c24:Int) (c25:Int) (c26:List (List P.S42)) (c27:List P.S44)
end
end Go.Proofs.YtcomnjodjijcmaaGreat.R
