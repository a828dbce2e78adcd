/- Lemmas for laws of chapter 7: what the functions that they reach compute. No condition of its own. -/
import Derived.Test.YtcomnjodjijcmaaGreatYE9
import Derived.Test.YtcomnjodjijcmaaGreatYE10
namespace Go.Proofs.YtcomnjodjijcmaaGreat.R
open M Go.RowKit Go.Proofs.YtcomnjodjijcmaaGreatW.dz Go.Proofs.YtcomnjodjijcmaaGreatW.dX Go.Proofs.YtcomnjodjijcmaaGreatW.eD
set_option linter.unusedVariables false
variable [Inhabited WT]
section
variable {γ:Type} (X0:Int→Option γ) (c2:List (List P.S42)) (c3:Int)
noncomputable def dP.l0T (R:Int→Int→Option γ) (k:Nat) (v1:Int) (v4:Int):Option γ:=(if (decide (v4<c3))=true then (if 0≤v4 then (if v4<(c2.length:Int) then (R (wq (v1+((gL c2 v4).length:Int))) (wq (v4+1))) else none) else none) else (X0 v1))
noncomputable def dP.l0:Nat→Int→Int→Option γ
  | 0=>(fun _ _=>none)
  | k+1=>(fun v1 v4=>(dP.l0T X0 c2 c3 (dP.l0 k) k v1 v4))
end
section
variable {γ:Type} (X0:Int→Option γ) (c2:List P.S44) (c3:Int)
noncomputable def dP.l1T (R:Int→Int→Option γ) (k:Nat) (v1:Int) (v4:Int):Option γ:=(if (decide (v4<c3))=true then (if 0≤v4 then (if v4<(c2.length:Int) then (R (wq (v1+((gG c2 v4).f1.length:Int))) (wq (v4+1))) else none) else none) else (X0 v1))
noncomputable def dP.l1:Nat→Int→Int→Option γ
  | 0=>(fun _ _=>none)
  | k+1=>(fun v1 v4=>(dP.l1T X0 c2 c3 (dP.l1 k) k v1 v4))
end
noncomputable def dP.f (k:Nat) (ac:Int) (af:Int) (aa:List (List P.S42)) (ab:List P.S44):Option (Int):=(dP.l0 (fun y1=>(dP.l1 (fun y2=>(some y2)) ab (ab.length:Int) k y1 0)) aa (aa.length:Int) k 0 0)
noncomputable def fI.f (k:Nat) (a0:Int):Option (Bool):=(if (decide (a0≥(-1099511627776)))=true then (some (decide (a0≤1099511627776))) else (some false))
noncomputable def gq.f (k:Nat) (a0:Int):Option (Bool):=(if (decide (a0≥(-1099511627776)))=true then (some (decide (a0≤1099511627776))) else (some false))
section
variable {γ:Type} (X0:Option γ) (X1:Option γ) (c1:List P.S42) (c2:List P.S42) (c3:Int)
noncomputable def dV.l0T (R:Int→Option γ) (k:Nat) (v4:Int):Option γ:=(if (decide (v4<c3))=true then (if 0≤v4 then (if v4<(c2.length:Int) then ((gq.f k (gS c2 v4).f0).bind fun t5=>(if (!t5)=true then X0 else ((gq.f k (gS c2 v4).f1).bind fun t6=>(if (!t6)=true then X0 else (if (decide ((gS c2 v4).f0>(gS c2 v4).f1))=true then X0 else (if (decide (v4>0))=true then (if 0≤(wq (v4 - 1)) then (if (wq (v4 - 1))<(c1.length:Int) then (if (decide ((gS c2 v4).f0<(wq ((gS c1 (wq (v4 - 1))).f1+2))))=true then X0 else (R (wq (v4+1)))) else none) else none) else (R (wq (v4+1))))))))) else none) else none) else X1)
noncomputable def dV.l0:Nat→Int→Option γ
  | 0=>(fun _=>none)
  | k+1=>(fun v4=>(dV.l0T X0 X1 c1 c2 c3 (dV.l0 k) k v4))
end
noncomputable def dV.f (k:Nat) (a0:List P.S42):Option (Bool):=(dV.l0 (some false) (some true) a0 a0 (a0.length:Int) k 0)
section
variable {γ:Type} (X0:Option γ) (X1:Option γ) (c1:List (List P.S42)) (c2:Int)
noncomputable def dB.l1T (R:Int→Option γ) (k:Nat) (v3:Int):Option γ:=(if (decide (v3<c2))=true then (if 0≤v3 then (if v3<(c1.length:Int) then ((dV.f k (gL c1 v3)).bind fun t3=>(if (!t3)=true then X0 else (R (wq (v3+1))))) else none) else none) else X1)
noncomputable def dB.l1:Nat→Int→Option γ
  | 0=>(fun _=>none)
  | k+1=>(fun v3=>(dB.l1T X0 X1 c1 c2 (dB.l1 k) k v3))
end
section
variable {γ:Type} (X0:Option γ) (X1:Option γ) (c1:List P.S44) (c2:Int) (c7:List P.S44)
noncomputable def dB.l2T (R:Int→Option γ) (k:Nat) (v3:Int):Option γ:=(if (decide (v3<c2))=true then (if 0≤v3 then (if v3<(c1.length:Int) then ((dV.f k (gG c1 v3).f1).bind fun t8=>(if (!t8)=true then X0 else ((fI.f k (gG c1 v3).f0).bind fun t9=>(if (!t9)=true then X0 else (if (decide (v3>0))=true then (if 0≤(wq (v3 - 1)) then (if (wq (v3 - 1))<(c7.length:Int) then (if (decide ((gG c1 v3).f0≤(gG c7 (wq (v3 - 1))).f0))=true then X0 else (R (wq (v3+1)))) else none) else none) else (R (wq (v3+1)))))))) else none) else none) else X1)
noncomputable def dB.l2:Nat→Int→Option γ
  | 0=>(fun _=>none)
  | k+1=>(fun v3=>(dB.l2T X0 X1 c1 c2 c7 (dB.l2 k) k v3))
end
section
variable {γ:Type} (X0:Int→Int→(List (List P.S42))→(List P.S44)→Option γ) (X1:Int→Int→(List (List P.S42))→(List P.S44)→Option γ)
noncomputable def dB.l0 (k:Nat) (v1:Int) (v2:Int) (v3:List (List P.S42)) (v4:List P.S44):Option γ:=(dB.l1 (X0 v1 v2 v3 v4) (dB.l2 (X0 v1 v2 v3 v4) (X1 v1 v2 v3 v4) v4 (v4.length:Int) v4 k 0) v3 (v3.length:Int) k 0)
end
noncomputable def dB.f (k:Nat) (aa:Int) (ab:Int) (ac:List (List P.S42)) (af:List P.S44):Option (Bool):=(if (!(decide (ab=(ac.length:Int))))=true then (some false) else (if (!((decide (ab=0))==(decide (aa=0))))=true then (some false) else (if (decide (aa<0))=true then (some false) else (if (decide (aa>1099511627776))=true then (some false) else (dB.l0 (fun ah ai aj y13=>(some false)) (fun ak am ao ap=>(some true)) k aa ab ac af)))))
section
variable {γ:Type} (X0:(List (List P.S42))→Option γ) (c2:List (List P.S42)) (c3:Int)
noncomputable def dI.l0T (R:(List (List P.S42))→Int→Option γ) (k:Nat) (v1:List (List P.S42)) (v4:Int):Option γ:=(if (decide (v4<c3))=true then (if 0≤v4 then (if v4<(c2.length:Int) then (if (decide (((gL c2 v4).length:Int)>0))=true then (if v1.length+1≤5864062014805 then (R (v1++[(gL c2 v4)]) (wq (v4+1))) else none) else (R v1 (wq (v4+1)))) else none) else none) else (X0 v1))
noncomputable def dI.l0:Nat→(List (List P.S42))→Int→Option γ
  | 0=>(fun _ _=>none)
  | k+1=>(fun v1 v4=>(dI.l0T X0 c2 c3 (dI.l0 k) k v1 v4))
end
section
variable {γ:Type} (X0:Option γ) (X1:Option γ) (c1:List (List P.S42)) (c2:List (List P.S42)) (c3:Int) (c5:Int)
noncomputable def dI.l1T (R:Int→Option γ) (k:Nat) (v4:Int):Option γ:=(if (decide (v4<c3))=true then (if 0≤v4 then (if v4<(c2.length:Int) then (if (c1.length:Int)=0 then none else (if 0≤(Int.tmod (wq (v4+1)) (c1.length:Int)) then (if (Int.tmod (wq (v4+1)) (c1.length:Int))<(c1.length:Int) then (if (decide ((wq (v4+1))=(c1.length:Int)))=true then (if 0≤(wq (((gL c2 v4).length:Int) - 1)) then (if (wq (((gL c2 v4).length:Int) - 1))<((gL c2 v4).length:Int) then (if 0<((gL c1 (Int.tmod (wq (v4+1)) (c1.length:Int))).length:Int) then (if (decide ((gS (gL c2 v4) (wq (((gL c2 v4).length:Int) - 1))).f1≥(wq ((gS (gL c1 (Int.tmod (wq (v4+1)) (c1.length:Int))) 0).f0+c5))))=true then X0 else (R (wq (v4+1)))) else none) else none) else none) else (if 0≤(wq (((gL c2 v4).length:Int) - 1)) then (if (wq (((gL c2 v4).length:Int) - 1))<((gL c2 v4).length:Int) then (if 0<((gL c1 (Int.tmod (wq (v4+1)) (c1.length:Int))).length:Int) then (if (decide ((gS (gL c2 v4) (wq (((gL c2 v4).length:Int) - 1))).f1≥(wq ((gS (gL c1 (Int.tmod (wq (v4+1)) (c1.length:Int))) 0).f0+0))))=true then X0 else (R (wq (v4+1)))) else none) else none) else none)) else none) else none)) else none) else none) else X1)
noncomputable def dI.l1:Nat→Int→Option γ
  | 0=>(fun _=>none)
  | k+1=>(fun v4=>(dI.l1T X0 X1 c1 c2 c3 c5 (dI.l1 k) k v4))
end
noncomputable def dI.f (k:Nat) (ab:Int) (ac:Int) (aa:List (List P.S42)) (af:List P.S44):Option (Bool):=(dI.l0 (fun y1=>(dI.l1 (some false) (some true) y1 y1 (y1.length:Int) ab k 0)) aa (aa.length:Int) k [] 0)
noncomputable def fJ.f (k:Nat) (a0:Int) (a1:Int):Option (Int × Int × Int):=(if (decide (a1=0))=true then (some (0,0,11)) else (if (decide (a1=(-1)))=true then (if (decide (a0=(-9223372036854775808)))=true then (some (0,0,10)) else (if a1=0 then none else (if a1=0 then none else (if (!(decide ((Int.tmod a0 a1)=0)))=true then (if (!((decide ((Int.tmod a0 a1)<0))==(decide (a1<0))))=true then (some ((wq ((wq (Int.tdiv a0 a1)) - 1)),(wq ((Int.tmod a0 a1)+a1)),0)) else (some ((wq (Int.tdiv a0 a1)),(Int.tmod a0 a1),0))) else (some ((wq (Int.tdiv a0 a1)),(Int.tmod a0 a1),0)))))) else (if a1=0 then none else (if a1=0 then none else (if (!(decide ((Int.tmod a0 a1)=0)))=true then (if (!((decide ((Int.tmod a0 a1)<0))==(decide (a1<0))))=true then (some ((wq ((wq (Int.tdiv a0 a1)) - 1)),(wq ((Int.tmod a0 a1)+a1)),0)) else (some ((wq (Int.tdiv a0 a1)),(Int.tmod a0 a1),0))) else (some ((wq (Int.tdiv a0 a1)),(Int.tmod a0 a1),0)))))))
noncomputable def cmp_isNaN_int.f (k:Nat) (a0:Int):Option (Bool):=(some (!(decide (a0=a0))))
noncomputable def cmp_Compare_int.f (k:Nat) (a0:Int) (a1:Int):Option (Int):=((cmp_isNaN_int.f k a0).bind fun t1=>((cmp_isNaN_int.f k a1).bind fun t2=>(if t1=true then (if t2=true then (some 0) else (some (-1))) else (if t2=true then (some 1) else (if (decide (a0<a1))=true then (some (-1)) else (if (decide (a0>a1))=true then (some 1) else (some 0)))))))
noncomputable def iE.f (k:Nat) (aa:Int) (ab:List P.S42) (a1:Int):Option (Int):=((cmp_Compare_int.f k aa a1).bind fun t1=>(some t1))
section
variable {γ:Type} (X0:Int→Option γ) (c1:List P.S44) (c2:Int)
noncomputable def eG.l0T (R:Int→Int→Option γ) (k:Nat) (v4:Int) (v5:Int):Option γ:=(if (decide (v4<v5))=true then (if 0≤(wq (Int.fdiv (wC .u64 (wq (v4+v5))) 2)) then (if (wq (Int.fdiv (wC .u64 (wq (v4+v5))) 2))<(c1.length:Int) then ((iE.f k (gG c1 (wq (Int.fdiv (wC .u64 (wq (v4+v5))) 2))).f0 (gG c1 (wq (Int.fdiv (wC .u64 (wq (v4+v5))) 2))).f1 c2).bind fun t3=>(if (decide (t3<0))=true then (R (wq ((wq (Int.fdiv (wC .u64 (wq (v4+v5))) 2))+1)) v5) else (R v4 (wq (Int.fdiv (wC .u64 (wq (v4+v5))) 2))))) else none) else none) else (X0 v4))
noncomputable def eG.l0:Nat→Int→Int→Option γ
  | 0=>(fun _ _=>none)
  | k+1=>(fun v4 v5=>(eG.l0T X0 c1 c2 (eG.l0 k) k v4 v5))
end
noncomputable def eG.f (k:Nat) (ab:Int) (ac:Int) (af:List (List P.S42)) (aa:List P.S44) (a1:Int):Option (Int × Bool):=(eG.l0 (fun y4=>(if (decide (y4<(aa.length:Int)))=true then (if 0≤y4 then (if y4<(aa.length:Int) then ((iE.f k (gG aa y4).f0 (gG aa y4).f1 a1).bind fun t5=>(some (y4,(decide (t5=0))))) else none) else none) else (some (y4,false)))) aa a1 k 0 (aa.length:Int))
noncomputable def bits_Mul64.f (k:Nat) (a0:Int) (a1:Int):Option (Int × Int):=(some ((wC .u64 ((wC .u64 ((wC .u64 ((Int.fdiv a0 4294967296)*(Int.fdiv a1 4294967296)))+(Int.fdiv (wC .u64 ((wC .u64 ((Int.fdiv a0 4294967296)*(IntKind.wrap .u64 (BitVec.ofInt 64 a1 &&& BitVec.ofInt 64 4294967295).toNat)))+(Int.fdiv (wC .u64 ((IntKind.wrap .u64 (BitVec.ofInt 64 a0 &&& BitVec.ofInt 64 4294967295).toNat)*(IntKind.wrap .u64 (BitVec.ofInt 64 a1 &&& BitVec.ofInt 64 4294967295).toNat))) 4294967296))) 4294967296)))+(Int.fdiv (wC .u64 ((IntKind.wrap .u64 (BitVec.ofInt 64 (wC .u64 ((wC .u64 ((Int.fdiv a0 4294967296)*(IntKind.wrap .u64 (BitVec.ofInt 64 a1 &&& BitVec.ofInt 64 4294967295).toNat)))+(Int.fdiv (wC .u64 ((IntKind.wrap .u64 (BitVec.ofInt 64 a0 &&& BitVec.ofInt 64 4294967295).toNat)*(IntKind.wrap .u64 (BitVec.ofInt 64 a1 &&& BitVec.ofInt 64 4294967295).toNat))) 4294967296))) &&& BitVec.ofInt 64 4294967295).toNat)+(wC .u64 ((IntKind.wrap .u64 (BitVec.ofInt 64 a0 &&& BitVec.ofInt 64 4294967295).toNat)*(Int.fdiv a1 4294967296))))) 4294967296))),(wC .u64 (a0*a1))))
noncomputable def gy.f (k:Nat) (a0:Int):Option (Int):=(if (decide (a0<0))=true then (some (wC .u64 (0 - (wC .u64 a0)))) else (some (wC .u64 a0)))
noncomputable def fZ.f (k:Nat) (a0:Int) (a1:Bool):Option (Int × Int):=(if a1=true then (if (decide (a0≤9223372036854775808))=true then (some ((wq (wC .u64 (0 - a0))),0)) else (if (!a1)=true then (if (decide (a0≤9223372036854775807))=true then (some ((wq a0),0)) else (some (0,10))) else (some (0,10)))) else (if (!a1)=true then (if (decide (a0≤9223372036854775807))=true then (some ((wq a0),0)) else (some (0,10))) else (some (0,10))))
noncomputable def gN.f (k:Nat) (a0:Int) (a1:Int):Option (Int × Int):=((gy.f k a0).bind fun t1=>((gy.f k a1).bind fun t2=>((bits_Mul64.f k t1 t2).bind fun t3=>(if (!(decide (t3.1=0)))=true then (some (0,10)) else ((fZ.f k t3.2 (!((decide (a0<0))==(decide (a1<0))))).bind fun t4=>(some (t4.1,t4.2)))))))
noncomputable def iG.f (k:Nat) (af:Int) (aa:Int) (ab:List (List P.S42)) (ac:List P.S44) (a1:Int):Option ((List P.S42) × Int × Int):=((eG.f k af aa ab ac a1).bind fun t1=>(if t1.2=true then (if 0≤t1.1 then (if t1.1<(ac.length:Int) then (some ((gG ac t1.1).f1,0,0)) else none) else none) else (if (decide (aa=0))=true then (some ([],0,0)) else ((fJ.f k a1 aa).bind fun t2=>((gN.f k t2.1 af).bind fun t3=>(if 0≤t2.2.1 then (if t2.2.1<(ab.length:Int) then (some ((gL ab t2.2.1),t3.1,t3.2)) else none) else none))))))
noncomputable def iP.f (k:Nat) (a0:Int) (a1:Int):Option (Int × Int):=(if (!((decide ((wq (a0+a1))>a0))==(decide (a1>0))))=true then (if (!(decide (a1=0)))=true then (some (0,10)) else (some ((wq (a0+a1)),0))) else (some ((wq (a0+a1)),0)))
section
variable {γ:Type} (X0:(List P.S42)→Option γ) (X1:(List P.S42)→Option γ) (c1:Int) (c3:List P.S42) (c4:Int)
noncomputable def dY.l0T (R:(List P.S42)→Int→Option γ) (k:Nat) (v2:List P.S42) (v5:Int):Option γ:=(if (decide (v5<c4))=true then (if 0≤v5 then (if v5<(c3.length:Int) then ((iP.f k (gS c3 v5).f0 c1).bind fun t9=>((iP.f k (gS c3 v5).f1 c1).bind fun t10=>(if (!(decide (t9.2=0)))=true then (X0 v2) else (if (!(decide (t10.2=0)))=true then (X0 v2) else ((gq.f k t9.1).bind fun t11=>(if (!t11)=true then (X0 v2) else ((gq.f k t10.1).bind fun t12=>(if (!t12)=true then (X0 v2) else (if v2.length+1≤8796093022208 then (R (v2++[(⟨t9.1,t10.1⟩:P.S42)]) (wq (v5+1))) else none))))))))) else none) else none) else (X1 v2))
noncomputable def dY.l0:Nat→(List P.S42)→Int→Option γ
  | 0=>(fun _ _=>none)
  | k+1=>(fun v2 v5=>(dY.l0T X0 X1 c1 c3 c4 (dY.l0 k) k v2 v5))
end
noncomputable def dY.f (k:Nat) (a0:List P.S42) (a1:Int):Option ((List P.S42) × Int):=(dY.l0 (fun y13=>(some ([],20))) (fun aa=>(some (aa,0))) a1 a0 (a0.length:Int) k [] 0)
noncomputable def fU.f (k:Nat) (aa:Int) (ab:Int) (ac:List (List P.S42)) (af:List P.S44) (a1:Int):Option ((List P.S42) × Int):=((fI.f k a1).bind fun t1=>(if (!t1)=true then (some ([],20)) else ((iG.f k aa ab ac af a1).bind fun t2=>(if (decide ((t2.1.length:Int)=0))=true then (some ([],0)) else (if (!(decide (t2.2.2=0)))=true then (some ([],20)) else ((dY.f k t2.1 t2.2.1).bind fun t3=>(some (t3.1,t3.2))))))))
noncomputable def gZ.f (k:Nat) (a0:List P.S42):Option (Bool):=(some (decide ((a0.length:Int)>0)))
section
variable {γ:Type} (X0:Int→Option γ) (X1:Option γ) (c1:List (List P.S42)) (c2:Int)
noncomputable def eB.l0T (R:Int→Option γ) (k:Nat) (v3:Int):Option γ:=(if (decide (v3<c2))=true then (if 0≤v3 then (if v3<(c1.length:Int) then ((gZ.f k (gL c1 v3)).bind fun t3=>(if t3=true then (X0 v3) else (R (wq (v3+1))))) else none) else none) else X1)
noncomputable def eB.l0:Nat→Int→Option γ
  | 0=>(fun _=>none)
  | k+1=>(fun v3=>(eB.l0T X0 X1 c1 c2 (eB.l0 k) k v3))
end
noncomputable def eB.f (k:Nat) (ab:Int) (ac:Int) (aa:List (List P.S42)) (af:List P.S44):Option (Bool):=(eB.l0 (fun y4=>(some (!(decide (y4≥0))))) (some true) aa (aa.length:Int) k 0)
noncomputable def iR.f (k:Nat) (aa:Int) (ab:Int) (ac:List (List P.S42)) (af:List P.S44) (a1:Int):Option (Bool):=((iG.f k aa ab ac af a1).bind fun t1=>(some (decide ((t1.1.length:Int)>0))))
section
variable {γ:Type} (X0:Int→Option γ) (X1:Option γ) (c1:Int) (c6:List P.S44)
noncomputable def dD.l1T (R:Int→Option γ) (k:Nat) (v2:Int):Option γ:=(if (decide (v2≥0))=true then (if (decide (v2<(c6.length:Int)))=true then (if 0≤v2 then (if v2<(c6.length:Int) then (if (decide (((gG c6 v2).f1.length:Int)>0))=true then (if 0≤v2 then (if v2<(c6.length:Int) then (X0 (gG c6 v2).f0) else none) else none) else (R (wq (v2+c1)))) else none) else none) else X1) else X1)
noncomputable def dD.l1:Nat→Int→Option γ
  | 0=>(fun _=>none)
  | k+1=>(fun v2=>(dD.l1T X0 X1 c1 c6 (dD.l1 k) k v2))
end
section
variable {γ:Type} (X0:Int→Int→Int→(List (List P.S42))→(List P.S44)→Option γ) (X1:Int→Int→(List (List P.S42))→(List P.S44)→Option γ)
noncomputable def dD.l0 (k:Nat) (v1:Int) (v2:Int) (v3:Int) (v4:Int) (v5:List (List P.S42)) (v6:List P.S44):Option γ:=(dD.l1 (fun y3=>(X0 y3 v3 v4 v5 v6)) (X1 v3 v4 v5 v6) v1 v6 k v2)
end
section
variable {γ:Type} (X0:Int→Option γ) (X1:Option γ) (c1:Int) (c3:Int) (c4:Int) (c5:List (List P.S42)) (c6:List P.S44)
noncomputable def dD.l2T (R:Int→Option γ) (k:Nat) (v2:Int):Option γ:=((fI.f k v2).bind fun t33=>(if t33=true then ((iR.f k c3 c4 c5 c6 v2).bind fun t34=>(if t34=true then (X0 v2) else (R (wq (v2+c1))))) else X1))
noncomputable def dD.l2:Nat→Int→Option γ
  | 0=>(fun _=>none)
  | k+1=>(fun v2=>(dD.l2T X0 X1 c1 c3 c4 c5 c6 (dD.l2 k) k v2))
end
noncomputable def dD.f (k:Nat) (aa:Int) (ab:Int) (ac:List (List P.S42)) (af:List P.S44) (a1:Int) (a2:Int):Option (Int × Bool):=((eB.f k aa ab ac af).bind fun t1=>(if t1=true then ((eG.f k aa ab ac af a1).bind fun t2=>(if (decide (a2<0))=true then (if (!t2.2)=true then (dD.l0 (fun y4 y5 y6 y7 y8=>(some (y4,true))) (fun y9 ai aj ak=>(some (0,false))) k a2 (wq (t2.1 - 1)) aa ab ac af) else (dD.l0 (fun y13 am ao ap aq=>(some (y13,true))) (fun au aw y20 y21=>(some (0,false))) k a2 t2.1 aa ab ac af)) else (dD.l0 (fun y22 y23 y24 y25 ax=>(some (y22,true))) (fun y27 y28 y29 ay=>(some (0,false))) k a2 t2.1 aa ab ac af))) else (dD.l2 (fun ah=>(some (ah,true))) (some (0,false)) a2 aa ab ac af k a1)))
noncomputable def iq.f (k:Nat) (aa:Int) (ab:Int) (ac:List (List P.S42)) (af:List P.S44) (a1:Int):Option (Int × Bool):=(if (decide (a1≤(-1099511627776)))=true then (some (0,false)) else ((dD.f k aa ab ac af (mn (wq (a1 - 1)) 1099511627776) (-1)).bind fun t1=>(some (t1.1,t1.2))))
noncomputable def iw.f (k:Nat) (aa:Int) (ab:Int) (ac:List (List P.S42)) (af:List P.S44) (a1:Int):Option (Int × Bool):=(if (decide (a1≥1099511627776))=true then (some (0,false)) else ((dD.f k aa ab ac af (mx (wq (a1+1)) (-1099511627776)) 1).bind fun t1=>(some (t1.1,t1.2))))
noncomputable def eH.f (k:Nat) (a0:List P.S42) (a1:List P.S42):Option (Bool):=(if (decide ((a0.length:Int)=0))=true then (some true) else (if (decide ((a1.length:Int)=0))=true then (some true) else (if 0≤(wq ((a0.length:Int) - 1)) then (if (wq ((a0.length:Int) - 1))<(a0.length:Int) then (if 0<(a1.length:Int) then (some (decide ((gS a0 (wq ((a0.length:Int) - 1))).f1<(gS a1 0).f0))) else none) else none) else none)))
noncomputable def iy.f (k:Nat) (aa:Int) (ab:Int) (ac:List (List P.S42)) (af:List P.S44) (a1:Int):Option (Bool):=((fU.f k aa ab ac af a1).bind fun t1=>(if (!(decide (t1.2=0)))=true then (some false) else ((iq.f k aa ab ac af a1).bind fun t2=>((iw.f k aa ab ac af a1).bind fun t3=>(if t2.2=true then ((fU.f k aa ab ac af t2.1).bind fun t4=>(if (!(decide (t4.2=0)))=true then (some false) else (if t3.2=true then ((fU.f k aa ab ac af t3.1).bind fun t5=>(if (!(decide (t5.2=0)))=true then (some false) else ((eH.f k t4.1 t1.1).bind fun t6=>(if t6=true then ((eH.f k t1.1 t5.1).bind fun t7=>(if t7=true then ((eH.f k t4.1 t5.1).bind fun t8=>(some t8)) else (some false))) else (some false))))) else ((eH.f k t4.1 t1.1).bind fun t9=>(if t9=true then ((eH.f k t1.1 []).bind fun t10=>(if t10=true then ((eH.f k t4.1 []).bind fun t11=>(some t11)) else (some false))) else (some false)))))) else (if t3.2=true then ((fU.f k aa ab ac af t3.1).bind fun t12=>(if (!(decide (t12.2=0)))=true then (some false) else ((eH.f k [] t1.1).bind fun ah=>(if ah=true then ((eH.f k t1.1 t12.1).bind fun ai=>(if ai=true then ((eH.f k [] t12.1).bind fun aj=>(some aj)) else (some false))) else (some false))))) else ((eH.f k [] t1.1).bind fun t16=>(if t16=true then ((eH.f k t1.1 []).bind fun t17=>(if t17=true then ((eH.f k [] []).bind fun ak=>(some ak)) else (some false))) else (some false)))))))))
section
variable {γ:Type} (X0:Option γ) (X1:Option γ) (c1:List P.S44) (c2:Int) (c4:Int) (c5:Int) (c6:List (List P.S42)) (c7:List P.S44)
noncomputable def dH.l1T (R:Int→Option γ) (k:Nat) (v3:Int):Option γ:=(if (decide (v3<c2))=true then (if 0≤v3 then (if v3<(c1.length:Int) then ((iy.f k c4 c5 c6 c7 (gG c1 v3).f0).bind fun t6=>(if (!t6)=true then X0 else (R (wq (v3+1))))) else none) else none) else X1)
noncomputable def dH.l1:Nat→Int→Option γ
  | 0=>(fun _=>none)
  | k+1=>(fun v3=>(dH.l1T X0 X1 c1 c2 c4 c5 c6 c7 (dH.l1 k) k v3))
end
section
variable {γ:Type} (X0:Int→Int→(List (List P.S42))→(List P.S44)→Option γ) (X1:Int→Int→(List (List P.S42))→(List P.S44)→Option γ)
noncomputable def dH.l0 (k:Nat) (v1:Int) (v2:Int) (v3:List (List P.S42)) (v4:List P.S44):Option γ:=((dB.f k v1 v2 v3 v4).bind fun t2=>(if (!t2)=true then (X0 v1 v2 v3 v4) else ((dI.f k v1 v2 v3 v4).bind fun t3=>(if (!t3)=true then (X0 v1 v2 v3 v4) else (dH.l1 (X0 v1 v2 v3 v4) (X1 v1 v2 v3 v4) v4 (v4.length:Int) v1 v2 v3 v4 k 0)))))
end
noncomputable def dH.f (k:Nat) (ac:Int) (af:Int) (aa:List (List P.S42)) (ab:List P.S44):Option (Int):=(if (decide ((aa.length:Int)>6000))=true then (some 3) else (if (decide ((ab.length:Int)>6000))=true then (some 3) else ((dP.f k ac af aa ab).bind fun t1=>(if (decide (t1>60000))=true then (some 3) else (dH.l0 (fun y7 y8 y9 ah=>(some 50)) (fun ai aj y13 ak=>(some 0)) k ac af aa ab)))))
noncomputable def eP.f (k:Nat) (ac:Int) (af:Int) (aa:List (List P.S42)) (ab:List P.S44):Option (Bool):=(if (decide ((aa.length:Int)≤12))=true then (if (decide ((ab.length:Int)≤8))=true then ((dP.f k ac af aa ab).bind fun t1=>(some (decide (t1≤60)))) else (some false)) else (some false))
noncomputable def fG.f (k:Nat) (aa:Int) (ab:Int) (ac:List (List P.S42)) (af:List P.S44):Option (Bool):=((eP.f k aa ab ac af).bind fun t1=>(if t1=true then ((dH.f k aa ab ac af).bind fun t2=>(some (decide (t2=0)))) else (some false)))
noncomputable def gD.f (k:Nat) (a0:List P.S42):Option (P.S42 × Bool):=(if (decide ((a0.length:Int)=0))=true then (some ((⟨0,0⟩:P.S42),false)) else (if 0<(a0.length:Int) then (if 0≤(wq ((a0.length:Int) - 1)) then (if (wq ((a0.length:Int) - 1))<(a0.length:Int) then (some ((⟨(gS a0 0).f0,(gS a0 (wq ((a0.length:Int) - 1))).f1⟩:P.S42),true)) else none) else none) else none))
section
variable {γ:Type} (X0:Option γ) (X1:Option γ) (c1:List (List P.S42)) (c2:Int)
noncomputable def dw.l0T (R:Int→Option γ) (k:Nat) (v3:Int):Option γ:=(if (decide (v3<c2))=true then (if 0≤v3 then (if v3<(c1.length:Int) then ((gD.f k (gL c1 v3)).bind fun t4=>(if t4.2=true then (if (decide (t4.1.f0<(-200)))=true then X0 else (if (decide (t4.1.f1>200))=true then X0 else (R (wq (v3+1))))) else (R (wq (v3+1))))) else none) else none) else X1)
noncomputable def dw.l0:Nat→Int→Option γ
  | 0=>(fun _=>none)
  | k+1=>(fun v3=>(dw.l0T X0 X1 c1 c2 (dw.l0 k) k v3))
end
section
variable {γ:Type} (X0:Option γ) (X1:Option γ) (c1:List P.S44) (c2:Int)
noncomputable def dw.l1T (R:Int→Option γ) (k:Nat) (v3:Int):Option γ:=(if (decide (v3<c2))=true then (if 0≤v3 then (if v3<(c1.length:Int) then ((gD.f k (gG c1 v3).f1).bind fun t7=>(if (decide ((gG c1 v3).f0<(-100)))=true then X0 else (if (decide ((gG c1 v3).f0>100))=true then X0 else (if t7.2=true then (if (decide (t7.1.f0<(-3000)))=true then X0 else (if (decide (t7.1.f1>3000))=true then X0 else (R (wq (v3+1))))) else (R (wq (v3+1))))))) else none) else none) else X1)
noncomputable def dw.l1:Nat→Int→Option γ
  | 0=>(fun _=>none)
  | k+1=>(fun v3=>(dw.l1T X0 X1 c1 c2 (dw.l1 k) k v3))
end
noncomputable def dw.f (k:Nat) (ac:Int) (af:Int) (aa:List (List P.S42)) (ab:List P.S44):Option (Bool):=((fG.f k ac af aa ab).bind fun t1=>(if (!t1)=true then (some false) else (if (decide (ac>60))=true then (some false) else (dw.l0 (some false) (dw.l1 (some false) (some true) ab (ab.length:Int) k 0) aa (aa.length:Int) k 0))))
noncomputable def gH.f (k:Nat) (a0:List P.S42):Option (Bool):=(some (decide ((a0.length:Int)>0)))
section
variable {γ:Type} (X0:Int→Option γ) (X1:Option γ) (c1:List (List P.S42)) (c2:Int)
noncomputable def dZ.l0T (R:Int→Option γ) (k:Nat) (v3:Int):Option γ:=(if (decide (v3<c2))=true then (if 0≤v3 then (if v3<(c1.length:Int) then ((gH.f k (gL c1 v3)).bind fun t3=>(if t3=true then (X0 v3) else (R (wq (v3+1))))) else none) else none) else X1)
noncomputable def dZ.l0:Nat→Int→Option γ
  | 0=>(fun _=>none)
  | k+1=>(fun v3=>(dZ.l0T X0 X1 c1 c2 (dZ.l0 k) k v3))
end
noncomputable def dZ.f (k:Nat) (ab:Int) (ac:Int) (aa:List (List P.S42)) (af:List P.S44):Option (Bool):=(dZ.l0 (fun y4=>(some (!(decide (y4≥0))))) (some true) aa (aa.length:Int) k 0)
section
variable {γ:Type} (X0:Option γ) (X1:Option γ) (c1:List P.S42) (c2:List P.S42) (c3:Int) (c5:Int)
noncomputable def dN.l0T (R:Int→Option γ) (k:Nat) (v4:Int):Option γ:=(if (decide (v4<c3))=true then (if 0≤v4 then (if v4<(c2.length:Int) then (if 0≤v4 then (if v4<(c1.length:Int) then (if (decide ((wq ((gS c1 v4).f0 - (gS c2 v4).f0))=c5))=true then (if (!(decide ((wq ((gS c1 v4).f1 - (gS c2 v4).f1))=c5)))=true then X0 else (R (wq (v4+1)))) else X0) else none) else none) else none) else none) else X1)
noncomputable def dN.l0:Nat→Int→Option γ
  | 0=>(fun _=>none)
  | k+1=>(fun v4=>(dN.l0T X0 X1 c1 c2 c3 c5 (dN.l0 k) k v4))
end
noncomputable def dN.f (k:Nat) (a0:List P.S42) (a1:List P.S42) (a2:Int):Option (Bool):=(if (!(decide ((a0.length:Int)=(a1.length:Int))))=true then (some false) else (dN.l0 (some false) (some true) a1 a0 (a0.length:Int) a2 k 0))
section
variable {γ:Type} (X0:Option γ) (X1:Option γ) (c1:Int) (c2:Int) (c3:List (List P.S42)) (c4:Int) (c6:Int) (c7:Int) (c8:List (List P.S42))
noncomputable def dU.l0T (R:Int→Option γ) (k:Nat) (v5:Int):Option γ:=(if (decide (v5<c4))=true then (if 0≤v5 then (if v5<(c3.length:Int) then (if (decide ((wq (v5+c1))≥c7))=true then (if 0≤(wq ((wq (v5+c1)) - c7)) then (if (wq ((wq (v5+c1)) - c7))<(c8.length:Int) then ((dN.f k (gL c3 v5) (gL c8 (wq ((wq (v5+c1)) - c7))) (wq (c2 - c6))).bind fun t5=>(if (!t5)=true then X0 else (R (wq (v5+1))))) else none) else none) else (if 0≤(wq (v5+c1)) then (if (wq (v5+c1))<(c8.length:Int) then ((dN.f k (gL c3 v5) (gL c8 (wq (v5+c1))) (wq (c2 - 0))).bind fun t6=>(if (!t6)=true then X0 else (R (wq (v5+1))))) else none) else none)) else none) else none) else X1)
noncomputable def dU.l0:Nat→Int→Option γ
  | 0=>(fun _=>none)
  | k+1=>(fun v5=>(dU.l0T X0 X1 c1 c2 c3 c4 c6 c7 c8 (dU.l0 k) k v5))
end
noncomputable def dU.f (k:Nat) (ab:Int) (ac:Int) (aa:List (List P.S42)) (af:List P.S44) (a1:Int) (a2:Int):Option (Bool):=(dU.l0 (some false) (some true) a1 a2 aa (aa.length:Int) ab ac aa k 0)
section
variable {γ:Type} (Y0:Int→Int→Int→(List (List P.S42))→(List P.S44)→Int→(Int→Int→(List (List P.S42))→(List P.S44)→Int→Option γ)→(Int→Int→(List (List P.S42))→(List P.S44)→Int→Int→(List (List P.S42))→Int→Option γ)→Option γ) (X0:Int→Int→(List (List P.S42))→(List P.S44)→Int→Int→(List (List P.S42))→Int→Option γ) (X1:Int→Int→(List (List P.S42))→(List P.S44)→Int→Option γ)
noncomputable def dF.l0T (R:Int→Int→Int→(List (List P.S42))→(List P.S44)→Int→Option γ) (k:Nat) (v1:Int) (v2:Int) (v3:Int) (v4:List (List P.S42)) (v5:List P.S44) (v6:Int):Option γ:=(if (decide (v1≤v6))=true then (if v1=0 then none else (if (decide ((Int.tmod v6 v1)=0))=true then (Y0 v1 v2 v3 v4 v5 v6 (fun z46 z47 z48 z49 z50=>(R (wq (v1+1)) z46 z47 z48 z49 z50)) X0) else (R (wq (v1+1)) v2 v3 v4 v5 v6))) else (X1 v2 v3 v4 v5 v6))
noncomputable def dF.l0:Nat→Int→Int→Int→(List (List P.S42))→(List P.S44)→Int→Option γ
  | 0=>(fun _ _ _ _ _ _=>none)
  | k+1=>(fun v1 v2 v3 v4 v5 v6=>(dF.l0T Y0 X0 X1 (dF.l0 k) k v1 v2 v3 v4 v5 v6))
end
section
variable {γ:Type} (X0:(List (List P.S42))→Option γ) (c1:List (List P.S42)) (c2:Int)
noncomputable def dF.l1T (R:Int→(List (List P.S42))→Option γ) (k:Nat) (v3:Int) (v10:List (List P.S42)):Option γ:=(if (decide (v3<c2))=true then (if 0≤v3 then (if v3<(c1.length:Int) then ((d9.f k (gL c1 v3)).bind fun t82=>(if v10.length+1≤5864062014805 then (R (wq (v3+1)) (v10++[t82])) else none)) else none) else none) else (X0 v10))
noncomputable def dF.l1:Nat→Int→(List (List P.S42))→Option γ
  | 0=>(fun _ _=>none)
  | k+1=>(fun v3 v10=>(dF.l1T X0 c1 c2 (dF.l1 k) k v3 v10))
end
noncomputable def dF.f (k:Nat) (aj:Int) (ah:Int) (ak:List (List P.S42)) (am:List P.S44):Option (P.S25):=((dZ.f k aj ah ak am).bind fun t1=>(if t1=true then (some (⟨0,0,[],[]⟩:P.S25)) else (dF.l0 (fun aa ac af ab ai ao x0 x1=>(if aa=0 then none else ((fJ.f k ac (wq (Int.tdiv af aa))).bind fun t78=>(if (!(decide (t78.2.1=0)))=true then (x0 ac af ab ai ao) else ((dU.f k ac af ab ai aa t78.1).bind fun t79=>(if (!t79)=true then (x0 ac af ab ai ao) else (if 0≤aa then (if aa≤(ab.length:Int) then (dF.l1 (fun ap=>(x1 ac af ab ai t78.1 aa ap ao)) (ab.take (Int.toNat aa)) ((ab.take (Int.toNat aa)).length:Int) k 0 []) else none) else none))))))) (fun ax ay az aA aq au aw aB=>(some (⟨aq,au,aw,[]⟩:P.S25))) (fun aC aD aE aF aG=>(some (⟨0,0,[],[]⟩:P.S25))) k 1 aj ah ak am ah)))
section
variable {γ:Type} (X0:Option γ) (X1:Option γ) (c1:List P.S42) (c2:List P.S42) (c3:Int)
noncomputable def dx.l0T (R:Int→Option γ) (k:Nat) (v4:Int):Option γ:=(if (decide (v4<c3))=true then (if 0≤v4 then (if v4<(c1.length:Int) then (if 0≤v4 then (if v4<(c2.length:Int) then (if (!(((gS c1 v4).f0==(gS c2 v4).f0)&&((gS c1 v4).f1==(gS c2 v4).f1)))=true then X0 else (R (wq (v4+1)))) else none) else none) else none) else none) else X1)
noncomputable def dx.l0:Nat→Int→Option γ
  | 0=>(fun _=>none)
  | k+1=>(fun v4=>(dx.l0T X0 X1 c1 c2 c3 (dx.l0 k) k v4))
end
noncomputable def dx.f (k:Nat) (a0:List P.S42) (a1:List P.S42):Option (Bool):=(if (!(decide ((a0.length:Int)=(a1.length:Int))))=true then (some false) else (dx.l0 (some false) (some true) a0 a1 (a0.length:Int) k 0))
noncomputable def gX.f (k:Nat) (a0:List P.S42) (a1:List P.S42):Option (Bool):=((dx.f k a0 a1).bind fun t1=>(some t1))
noncomputable def iA.f (k:Nat) (aa:Int) (ab:Int) (ac:List (List P.S42)) (af:List P.S44) (ah:Int) (ai:List P.S42):Option (Bool):=((fU.f k aa ab ac af ah).bind fun t1=>(if (decide (t1.2=0))=true then ((gX.f k t1.1 ai).bind fun t2=>(some t2)) else (some false)))
section
variable {γ:Type} (X0:(List P.S44)→Option γ) (c2:List P.S44) (c3:Int) (c9:Int) (c10:Int) (c11:List (List P.S42)) (c12:List P.S44)
noncomputable def dK.l0T (R:(List P.S44)→Int→Option γ) (k:Nat) (v1:List P.S44) (v4:Int):Option γ:=(if (decide (v4<c3))=true then (if 0≤v4 then (if v4<(c2.length:Int) then ((iA.f k c9 c10 c11 c12 (gG c2 v4).f0 (gG c2 v4).f1).bind fun t6=>(if (!t6)=true then ((d9.f k (gG c2 v4).f1).bind fun t7=>(if v1.length+1≤4398046511104 then (R (v1++[(⟨(gG c2 v4).f0,t7⟩:P.S44)]) (wq (v4+1))) else none)) else (R v1 (wq (v4+1))))) else none) else none) else (X0 v1))
noncomputable def dK.l0:Nat→(List P.S44)→Int→Option γ
  | 0=>(fun _ _=>none)
  | k+1=>(fun v1 v4=>(dK.l0T X0 c2 c3 c9 c10 c11 c12 (dK.l0 k) k v1 v4))
end
noncomputable def dK.f (k:Nat) (ab:Int) (ac:Int) (af:List (List P.S42)) (aa:List P.S44):Option (P.S25):=((dF.f k ab ac af aa).bind fun t1=>(dK.l0 (fun y8=>(some (⟨t1.f0,t1.f1,t1.f2,y8⟩:P.S25))) aa (aa.length:Int) t1.f0 t1.f1 t1.f2 t1.f3 k [] 0))
noncomputable def iQ.f (k:Nat) (a0:Int) (a1:Int):Option (Int × Int):=((gy.f k a0).bind fun t1=>((gy.f k a1).bind fun t2=>(if (decide (t1=0))=true then (some (0,0)) else (if (decide (t2=0))=true then (some (0,0)) else ((fq.f k t1 t2).bind fun t3=>(if t3=0 then none else ((bits_Mul64.f k (wC .u64 (Int.tdiv t1 t3)) t2).bind fun t4=>(if (!(decide (t4.1=0)))=true then (some (0,10)) else ((fZ.f k t4.2 false).bind fun t5=>(some (t5.1,t5.2)))))))))))
section
variable {γ:Type} (X0:Int→Int→(List (List P.S42))→(List P.S44)→Int→Int→(List (List P.S42))→(List P.S44)→Option γ) (X1:Int→Int→(List (List P.S42))→(List P.S44)→Int→Int→(List (List P.S42))→(List P.S44)→Option γ) (X2:Int→Int→(List (List P.S42))→(List P.S44)→Int→Int→(List (List P.S42))→(List P.S44)→Option γ) (X3:Int→Int→Int→Int→(List (List P.S42))→(List P.S44)→Int→Int→(List (List P.S42))→(List P.S44)→Option γ) (X4:Int→Int→(List (List P.S42))→(List P.S44)→Int→Int→(List (List P.S42))→(List P.S44)→Option γ) (X5:Int→Int→Int→Int→(List (List P.S42))→(List P.S44)→Int→Int→(List (List P.S42))→(List P.S44)→Option γ)
noncomputable def dR.l0 (k:Nat) (v1:Int) (v2:Int) (v3:Int) (v4:List (List P.S42)) (v5:List P.S44) (v6:Int) (v7:Int) (v8:List (List P.S42)) (v9:List P.S44):Option γ:=(if (decide (v1>6000))=true then (X0 v2 v3 v4 v5 v6 v7 v8 v9) else (if (decide (v1=0))=true then (X1 v2 v3 v4 v5 v6 v7 v8 v9) else (if (decide (v3=0))=true then (if v7=0 then none else ((gN.f k v6 (wq (Int.tdiv v1 v7))).bind fun t2=>(if (!(decide (t2.2=0)))=true then (X2 v2 v3 v4 v5 v6 v7 v8 v9) else (if (decide (t2.1>1099511627776))=true then (X2 v2 v3 v4 v5 v6 v7 v8 v9) else (X3 v1 t2.1 v2 v3 v4 v5 v6 v7 v8 v9))))) else (if v3=0 then none else ((gN.f k v2 (wq (Int.tdiv v1 v3))).bind fun t3=>(if (!(decide (t3.2=0)))=true then (X4 v2 v3 v4 v5 v6 v7 v8 v9) else (if (decide (t3.1>1099511627776))=true then (X4 v2 v3 v4 v5 v6 v7 v8 v9) else (X5 v1 t3.1 v2 v3 v4 v5 v6 v7 v8 v9))))))))
end
noncomputable def dR.f (k:Nat) (ac:Int) (aa:Int) (af:List (List P.S42)) (ah:List P.S44) (ai:Int) (ab:Int) (aj:List (List P.S42)) (ak:List P.S44):Option (Int × Int × Int):=(if (decide (aa>0))=true then (if (decide (ab>0))=true then ((iQ.f k aa ab).bind fun t1=>(dR.l0 (fun y4 y5 y6 y7 y8 y9 bj bk=>(some (0,0,3))) (fun bm y13 bn bo bq br bt bu=>(some (0,0,0))) (fun y20 y21 y22 y23 y24 y25 bv y27=>(some (0,0,20))) (fun y28 y29 bw y31 y32 bz y34 bA bB bC=>(some (y28,y29,0))) (fun y38 y39 bD bE bG bH bI bJ=>(some (0,0,20))) (fun ap aq bL bM bN bO bP bQ bR bS=>(some (ap,aq,0))) k t1.1 ac aa af ah ai ab aj ak)) else (dR.l0 (fun bU bV bW bX bY bZ b2 b3=>(some (0,0,3))) (fun b4 b5 b6 b7 b8 b9 ca cb=>(some (0,0,0))) (fun cd ce cf cg ch ci cj cm=>(some (0,0,20))) (fun au aw co cq cr ct cu cv cw cx=>(some (au,aw,0))) (fun y90 y91 cy y93 cz y95 y96 cA=>(some (0,0,20))) (fun y98 y99 ax y101 y102 ay y104 az aA aB=>(some (y98,y99,0))) k (mx aa ab) ac aa af ah ai ab aj ak)) else (dR.l0 (fun aC aD aE aF y112 y113 y114 y115=>(some (0,0,3))) (fun aG aH aI aJ aK aL aM aN=>(some (0,0,0))) (fun aO aP aQ aR aS aT aU aV=>(some (0,0,20))) (fun am ao aW aX aY aZ a2 a3 a4 a5=>(some (am,ao,0))) (fun a6 a7 a8 a9 ba bb be bf=>(some (0,0,20))) (fun y150 y151 y152 y153 bg bh bi y157 y158 y159=>(some (y150,y151,0))) k (mx aa ab) ac aa af ah ai ab aj ak))
noncomputable def iB.f (k:Nat) (a0:List P.S42):Option (Bool):=(some (decide ((a0.length:Int)>0)))
section
variable {γ:Type} (X0:Int→Option γ) (X1:Option γ) (c1:List (List P.S42)) (c2:Int)
noncomputable def eu.l0T (R:Int→Option γ) (k:Nat) (v3:Int):Option γ:=(if (decide (v3<c2))=true then (if 0≤v3 then (if v3<(c1.length:Int) then ((iB.f k (gL c1 v3)).bind fun t3=>(if t3=true then (X0 v3) else (R (wq (v3+1))))) else none) else none) else X1)
noncomputable def eu.l0:Nat→Int→Option γ
  | 0=>(fun _=>none)
  | k+1=>(fun v3=>(eu.l0T X0 X1 c1 c2 (eu.l0 k) k v3))
end
noncomputable def eu.f (k:Nat) (ab:Int) (ac:Int) (aa:List (List P.S42)) (af:List P.S44):Option (Bool):=(eu.l0 (fun y4=>(some (decide (y4≥0)))) (some false) aa (aa.length:Int) k 0)
noncomputable def gJ.f (k:Nat) (ac:Int) (ab:Int) (aa:List (List P.S42)) (af:List P.S44) (a1:Int):Option ((List P.S42) × Int):=(if (decide (ab=0))=true then (some ([],0)) else ((fJ.f k a1 ab).bind fun t1=>((gN.f k t1.1 ac).bind fun t2=>(if 0≤t1.2.1 then (if t1.2.1<(aa.length:Int) then (if (decide (((gL aa t1.2.1).length:Int)=0))=true then (some ([],0)) else (if (!(decide (t1.2.2=0)))=true then (some ([],20)) else (if (!(decide (t2.2=0)))=true then (some ([],20)) else (if 0≤t1.2.1 then (if t1.2.1<(aa.length:Int) then ((dY.f k (gL aa t1.2.1) t2.1).bind fun t3=>(some (t3.1,t3.2))) else none) else none)))) else none) else none))))
section
variable {γ:Type} (X0:(List P2)→Option γ) (X1:(List P2)→Option γ) (c3:Int) (c5:Int) (c6:Int) (c7:List (List P.S42)) (c8:List P.S44) (c9:Int) (c10:Int) (c11:List (List P.S42)) (c12:List P.S44)
noncomputable def dL.l1T (R:(List P2)→Int→Option γ) (k:Nat) (v2:List P2) (v4:Int):Option γ:=(if (decide (v4<c3))=true then ((gJ.f k c5 c6 c7 c8 v4).bind fun t9=>((gJ.f k c9 c10 c11 c12 v4).bind fun t10=>(if (!(decide (t9.2=0)))=true then (X0 v2) else (if (!(decide (t10.2=0)))=true then (X0 v2) else (if v2.length+1≤2932031007402 then (R (v2++[(⟨t9.1,t10.1⟩:P2)]) (wq (v4+1))) else none))))) else (X1 v2))
noncomputable def dL.l1:Nat→(List P2)→Int→Option γ
  | 0=>(fun _ _=>none)
  | k+1=>(fun v2 v4=>(dL.l1T X0 X1 c3 c5 c6 c7 c8 c9 c10 c11 c12 (dL.l1 k) k v2 v4))
end
section
variable {γ:Type} (X0:Int→Int→(List (List P.S42))→(List P.S44)→Int→Int→(List (List P.S42))→(List P.S44)→Option γ) (X1:(List P2)→Int→Int→Int→(List (List P.S42))→(List P.S44)→Int→Int→(List (List P.S42))→(List P.S44)→Option γ)
noncomputable def dL.l0 (k:Nat) (v1:Int) (v2:Int) (v3:Int) (v4:Int) (v5:List (List P.S42)) (v6:List P.S44) (v7:Int) (v8:Int) (v9:List (List P.S42)) (v10:List P.S44):Option γ:=(dL.l1 (fun ab=>(X0 v3 v4 v5 v6 v7 v8 v9 v10)) (fun aa=>(X1 aa v2 v3 v4 v5 v6 v7 v8 v9 v10)) v1 v3 v4 v5 v6 v7 v8 v9 v10 k [] 0)
end
noncomputable def dL.f (k:Nat) (aa:Int) (ab:Int) (ac:List (List P.S42)) (af:List P.S44) (ah:Int) (ai:Int) (aj:List (List P.S42)) (ak:List P.S44):Option ((List P2) × Int × Int):=((dR.f k aa ab ac af ah ai aj ak).bind fun t1=>(if (!(decide (t1.2.2=0)))=true then (some ([],0,t1.2.2)) else ((eu.f k aa ab ac af).bind fun t2=>(if t2=true then ((eu.f k ah ai aj ak).bind fun t3=>(if t3=true then ((dR.f k ah ai aj ak aa ab ac af).bind fun t4=>(if (!(decide (t4.2.1=t1.2.1)))=true then (some ([],0,51)) else (dL.l0 (fun y13 aq au aw ax ay az y20=>(some ([],0,20))) (fun y21 y22 y23 y24 y25 aA y27 y28 y29 aB=>(some (y21,y22,0))) k t1.1 t1.2.1 aa ab ac af ah ai aj ak))) else (dL.l0 (fun y31 y32 aC y34 aD aE aF y38=>(some ([],0,20))) (fun y39 am aG aH aI aJ aK aL aM aN=>(some (y39,am,0))) k t1.1 t1.2.1 aa ab ac af ah ai aj ak))) else (dL.l0 (fun aO aP aQ aR aS aT aU aV=>(some ([],0,20))) (fun ao ap aW aX aY aZ a2 a3 a4 a5=>(some (ao,ap,0))) k t1.1 t1.2.1 aa ab ac af ah ai aj ak)))))
section
variable {γ:Type} (X0:Int→Option γ) (c3:List (List P.S44)) (c4:Int)
noncomputable def cO.l0T (R:Int→Int→Option γ) (k:Nat) (v2:Int) (v5:Int):Option γ:=(if (decide (v5<c4))=true then (if 0≤v5 then (if v5<(c3.length:Int) then (if (decide ((wq (v2+((gM c3 v5).length:Int)))<0))=true then none else (R (wq (v2+((gM c3 v5).length:Int))) (wq (v5+1)))) else none) else none) else (X0 v2))
noncomputable def cO.l0:Nat→Int→Int→Option γ
  | 0=>(fun _ _=>none)
  | k+1=>(fun v2 v5=>(cO.l0T X0 c3 c4 (cO.l0 k) k v2 v5))
end
section
variable {γ:Type} (X0:(List P.S44)→Option γ) (c2:List (List P.S44)) (c3:Int)
noncomputable def cO.l1T (R:(List P.S44)→Int→Option γ) (k:Nat) (v1:List P.S44) (v4:Int):Option γ:=(if (decide (v4<c3))=true then (if 0≤v4 then (if v4<(c2.length:Int) then (if v1.length+(gM c2 v4).length≤4398046511104 then (R (v1++(gM c2 v4)) (wq (v4+1))) else none) else none) else none) else (X0 v1))
noncomputable def cO.l1:Nat→(List P.S44)→Int→Option γ
  | 0=>(fun _ _=>none)
  | k+1=>(fun v1 v4=>(cO.l1T X0 c2 c3 (cO.l1 k) k v1 v4))
end
noncomputable def cO.f (k:Nat) (a0:List (List P.S44)):Option (List P.S44):=(cO.l0 (fun y1=>((dW.f k y1).bind fun t2=>(cO.l1 (fun y3=>(some y3)) a0 (a0.length:Int) k [] 0))) a0 (a0.length:Int) k 0 0)
section
variable {γ:Type} (X0:(List Int)→Option γ) (c2:List P.S44) (c3:Int)
noncomputable def dO.l0T (R:(List Int)→Int→Option γ) (k:Nat) (v1:List Int) (v4:Int):Option γ:=(if (decide (v4<c3))=true then (if 0≤v4 then (if v4<(c2.length:Int) then (if v1.length+1≤17592186044416 then (R (v1++[(gG c2 v4).f0]) (wq (v4+1))) else none) else none) else none) else (X0 v1))
noncomputable def dO.l0:Nat→(List Int)→Int→Option γ
  | 0=>(fun _ _=>none)
  | k+1=>(fun v1 v4=>(dO.l0T X0 c2 c3 (dO.l0 k) k v1 v4))
end
section
variable {γ:Type} (X0:(List P2)→Option γ) (c3:List Int) (c4:Int) (c6:Int) (c7:Int) (c8:List (List P.S42)) (c9:List P.S44) (c10:Int) (c11:Int) (c12:List (List P.S42)) (c13:List P.S44)
noncomputable def dO.l1T (R:(List P2)→Int→Option γ) (k:Nat) (v2:List P2) (v5:Int):Option γ:=(if (decide (v5<c4))=true then (if 0≤v5 then (if v5<(c3.length:Int) then ((fU.f k c6 c7 c8 c9 (gI c3 v5)).bind fun t7=>((fU.f k c10 c11 c12 c13 (gI c3 v5)).bind fun t8=>(if v2.length+1≤2932031007402 then (R (v2++[(⟨t7.1,t8.1⟩:P2)]) (wq (v5+1))) else none))) else none) else none) else (X0 v2))
noncomputable def dO.l1:Nat→(List P2)→Int→Option γ
  | 0=>(fun _ _=>none)
  | k+1=>(fun v2 v5=>(dO.l1T X0 c3 c4 c6 c7 c8 c9 c10 c11 c12 c13 (dO.l1 k) k v2 v5))
end
noncomputable def dO.f (k:Nat) (ac:Int) (af:Int) (ah:List (List P.S42)) (aa:List P.S44) (ai:Int) (aj:Int) (ak:List (List P.S42)) (ab:List P.S44):Option ((List Int) × List P2):=((cO.f k [aa,ab]).bind fun t1=>(dO.l0 (fun y2=>(if (decide (y2.length≤8796093022208))=true then (if (decide ((jU y2).length≤8796093022208))=true then (dO.l1 (fun y9=>(some ((iN (jU y2)),y9))) (iN (jU y2)) ((iN (jU y2)).length:Int) ac af ah aa ai aj ak ab k [] 0) else none) else none)) t1 (t1.length:Int) k [] 0))
noncomputable def gK.f (k:Nat) (aa:List P.S42) (ab:List P.S42):Option (Bool):=(if (decide ((aa.length:Int)>0))=true then (if (decide ((ab.length:Int)>0))=true then ((gX.f k aa ab).bind fun t1=>(some (!t1))) else (some false)) else (some false))
section
variable {γ:Type} (X0:Int→Option γ) (X1:Option γ) (c1:List P2) (c2:Int)
noncomputable def dS.l0T (R:Int→Option γ) (k:Nat) (v3:Int):Option γ:=(if (decide (v3<c2))=true then (if 0≤v3 then (if v3<(c1.length:Int) then ((gK.f k (gP c1 v3).f0 (gP c1 v3).f1).bind fun t3=>(if t3=true then (X0 v3) else (R (wq (v3+1))))) else none) else none) else X1)
noncomputable def dS.l0:Nat→Int→Option γ
  | 0=>(fun _=>none)
  | k+1=>(fun v3=>(dS.l0T X0 X1 c1 c2 (dS.l0 k) k v3))
end
noncomputable def dS.f (k:Nat) (a0:List P2):Option (Bool):=(dS.l0 (fun y4=>(some (!(decide (y4≥0))))) (some true) a0 (a0.length:Int) k 0)
noncomputable def gQ.f (k:Nat) (aa:List P.S42) (ab:List P.S42):Option (List P.S42):=(if (decide ((aa.length:Int)>0))=true then (some aa) else (some ab))
noncomputable def gU.f (k:Nat) (aa:List P.S42) (ab:List P.S42):Option (List P.S42):=(if (decide ((ab.length:Int)>0))=true then (some aa) else (some []))
noncomputable def gV.f (k:Nat) (aa:List P.S42) (ab:List P.S42):Option (List P.S42):=(if (decide ((ab.length:Int)>0))=true then (some []) else (some aa))
section
variable {γ:Type} (X0:(List (List P.S42))→Option γ) (c3:List P2) (c4:Int)
noncomputable def dA.l1T (R:Int→(List (List P.S42))→Option γ) (k:Nat) (v5:Int) (v24:List (List P.S42)):Option γ:=(if (decide (v5<c4))=true then (if 0≤v5 then (if v5<(c3.length:Int) then ((gQ.f k (gP c3 v5).f0 (gP c3 v5).f1).bind fun t9=>(if v24.length+1≤5864062014805 then (R (wq (v5+1)) (v24++[t9])) else none)) else none) else none) else (X0 v24))
noncomputable def dA.l1:Nat→Int→(List (List P.S42))→Option γ
  | 0=>(fun _ _=>none)
  | k+1=>(fun v5 v24=>(dA.l1T X0 c3 c4 (dA.l1 k) k v5 v24))
end
section
variable {γ:Type} (X0:(List P.S44)→Option γ) (c1:List Int) (c2:List P2) (c3:Int)
noncomputable def dA.l2T (R:Int→(List P.S44)→Option γ) (k:Nat) (v4:Int) (v24:List P.S44):Option γ:=(if (decide (v4<c3))=true then (if 0≤v4 then (if v4<(c2.length:Int) then (if 0≤v4 then (if v4<(c1.length:Int) then ((gQ.f k (gP c2 v4).f0 (gP c2 v4).f1).bind fun aa=>(if v24.length+1≤4398046511104 then (R (wq (v4+1)) (v24++[(⟨(gI c1 v4),aa⟩:P.S44)])) else none)) else none) else none) else none) else none) else (X0 v24))
noncomputable def dA.l2:Nat→Int→(List P.S44)→Option γ
  | 0=>(fun _ _=>none)
  | k+1=>(fun v4 v24=>(dA.l2T X0 c1 c2 c3 (dA.l2 k) k v4 v24))
end
section
variable {γ:Type} (X0:Int→Int→(List (List P.S42))→(List P.S44)→Int→Int→(List (List P.S42))→(List P.S44)→Int→Int→(List (List P.S42))→(List P.S44)→Int→Int→(List (List P.S42))→(List P.S44)→Int→Int→(List (List P.S42))→(List P.S44)→Int→Int→(List (List P.S42))→(List P.S44)→Option γ) (X1:Int→Int→(List (List P.S42))→(List P.S44)→Int→Int→(List (List P.S42))→(List P.S44)→Int→Int→(List (List P.S42))→(List P.S44)→Int→Int→(List (List P.S42))→(List P.S44)→Int→Int→(List (List P.S42))→(List P.S44)→Option γ) (X2:Int→Int→(List (List P.S42))→(List P.S44)→Int→Int→(List (List P.S42))→(List P.S44)→Int→Int→(List (List P.S42))→(List P.S44)→Int→Int→(List (List P.S42))→(List P.S44)→Int→Int→(List (List P.S42))→(List P.S44)→Option γ)
noncomputable def dA.l0 (k:Nat) (v1:List P2) (v2:Int) (v3:List Int) (v4:List P2) (v5:Int) (v6:Int) (v7:List (List P.S42)) (v8:List P.S44) (v9:Int) (v10:Int) (v11:List (List P.S42)) (v12:List P.S44) (v13:Int) (v14:Int) (v15:List (List P.S42)) (v16:List P.S44) (v17:Int) (v18:Int) (v19:List (List P.S42)) (v20:List P.S44):Option γ:=(dA.l1 (fun aa=>(dA.l2 (fun ab=>((dH.f k v2 (v1.length:Int) aa ab).bind fun ac=>(if (decide (ac=0))=true then ((dK.f k v2 (v1.length:Int) aa ab).bind fun t16=>(X0 v5 v6 v7 v8 v9 v10 v11 v12 v13 v14 v15 v16 v17 v18 v19 v20 t16.f0 t16.f1 t16.f2 t16.f3 v2 (v1.length:Int) aa ab)) else (if (decide (ac=3))=true then (X1 v5 v6 v7 v8 v9 v10 v11 v12 v13 v14 v15 v16 v17 v18 v19 v20 v2 (v1.length:Int) aa ab) else (X2 v5 v6 v7 v8 v9 v10 v11 v12 v13 v14 v15 v16 v17 v18 v19 v20 v2 (v1.length:Int) aa ab))))) v3 v4 (v4.length:Int) k 0 [])) v1 (v1.length:Int) k 0 [])
end
noncomputable def dA.f (k:Nat) (aa:Int) (ab:Int) (ac:List (List P.S42)) (af:List P.S44) (ah:Int) (ai:Int) (aj:List (List P.S42)) (ak:List P.S44):Option (P.S25 × Int):=((dK.f k aa ab ac af).bind fun t1=>((dK.f k ah ai aj ak).bind fun t2=>((dL.f k t1.f0 t1.f1 t1.f2 t1.f3 t2.f0 t2.f1 t2.f2 t2.f3).bind fun t3=>(if (!(decide (t3.2.2=0)))=true then (some ((⟨0,0,[],[]⟩:P.S25),t3.2.2)) else ((dO.f k t1.f0 t1.f1 t1.f2 t1.f3 t2.f0 t2.f1 t2.f2 t2.f3).bind fun t4=>((dS.f k t3.1).bind fun t5=>(if (!t5)=true then (some ((⟨0,0,[],[]⟩:P.S25),51)) else ((dS.f k t4.2).bind fun t6=>(if (!t6)=true then (some ((⟨0,0,[],[]⟩:P.S25),51)) else (dA.l0 (fun aq au aw y20 y21 y22 y23 y24 y25 ax y27 y28 y29 ay y31 y32 am y34 ao ap az y38 y39 aA=>(some ((⟨am,y34,ao,ap⟩:P.S25),0))) (fun aB aC aD aE aF aG aH aI aJ aK aL aM aN aO aP aQ aR aS aT aU=>(some ((⟨0,0,[],[]⟩:P.S25),3))) (fun aV aW aX aY aZ a2 a3 a4 a5 a6 a7 a8 a9 ba bb be bf bg bh bi=>(some ((⟨0,0,[],[]⟩:P.S25),51))) k t3.1 t3.2.1 t4.1 t4.2 aa ab ac af ah ai aj ak t1.f0 t1.f1 t1.f2 t1.f3 t2.f0 t2.f1 t2.f2 t2.f3))))))))))
section
variable {γ:Type} (X0:(List (List P.S42))→Option γ) (c3:List P2) (c4:Int)
noncomputable def dJ.l1T (R:Int→(List (List P.S42))→Option γ) (k:Nat) (v5:Int) (v24:List (List P.S42)):Option γ:=(if (decide (v5<c4))=true then (if 0≤v5 then (if v5<(c3.length:Int) then ((gU.f k (gP c3 v5).f0 (gP c3 v5).f1).bind fun t9=>(if v24.length+1≤5864062014805 then (R (wq (v5+1)) (v24++[t9])) else none)) else none) else none) else (X0 v24))
noncomputable def dJ.l1:Nat→Int→(List (List P.S42))→Option γ
  | 0=>(fun _ _=>none)
  | k+1=>(fun v5 v24=>(dJ.l1T X0 c3 c4 (dJ.l1 k) k v5 v24))
end
section
variable {γ:Type} (X0:(List P.S44)→Option γ) (c1:List Int) (c2:List P2) (c3:Int)
noncomputable def dJ.l2T (R:Int→(List P.S44)→Option γ) (k:Nat) (v4:Int) (v24:List P.S44):Option γ:=(if (decide (v4<c3))=true then (if 0≤v4 then (if v4<(c2.length:Int) then (if 0≤v4 then (if v4<(c1.length:Int) then ((gU.f k (gP c2 v4).f0 (gP c2 v4).f1).bind fun aa=>(if v24.length+1≤4398046511104 then (R (wq (v4+1)) (v24++[(⟨(gI c1 v4),aa⟩:P.S44)])) else none)) else none) else none) else none) else none) else (X0 v24))
noncomputable def dJ.l2:Nat→Int→(List P.S44)→Option γ
  | 0=>(fun _ _=>none)
  | k+1=>(fun v4 v24=>(dJ.l2T X0 c1 c2 c3 (dJ.l2 k) k v4 v24))
end
section
variable {γ:Type} (X0:Int→Int→(List (List P.S42))→(List P.S44)→Int→Int→(List (List P.S42))→(List P.S44)→Int→Int→(List (List P.S42))→(List P.S44)→Int→Int→(List (List P.S42))→(List P.S44)→Int→Int→(List (List P.S42))→(List P.S44)→Int→Int→(List (List P.S42))→(List P.S44)→Option γ) (X1:Int→Int→(List (List P.S42))→(List P.S44)→Int→Int→(List (List P.S42))→(List P.S44)→Int→Int→(List (List P.S42))→(List P.S44)→Int→Int→(List (List P.S42))→(List P.S44)→Int→Int→(List (List P.S42))→(List P.S44)→Option γ) (X2:Int→Int→(List (List P.S42))→(List P.S44)→Int→Int→(List (List P.S42))→(List P.S44)→Int→Int→(List (List P.S42))→(List P.S44)→Int→Int→(List (List P.S42))→(List P.S44)→Int→Int→(List (List P.S42))→(List P.S44)→Option γ)
noncomputable def dJ.l0 (k:Nat) (v1:List P2) (v2:Int) (v3:List Int) (v4:List P2) (v5:Int) (v6:Int) (v7:List (List P.S42)) (v8:List P.S44) (v9:Int) (v10:Int) (v11:List (List P.S42)) (v12:List P.S44) (v13:Int) (v14:Int) (v15:List (List P.S42)) (v16:List P.S44) (v17:Int) (v18:Int) (v19:List (List P.S42)) (v20:List P.S44):Option γ:=(dJ.l1 (fun aa=>(dJ.l2 (fun ab=>((dH.f k v2 (v1.length:Int) aa ab).bind fun ac=>(if (decide (ac=0))=true then ((dK.f k v2 (v1.length:Int) aa ab).bind fun t16=>(X0 v5 v6 v7 v8 v9 v10 v11 v12 v13 v14 v15 v16 v17 v18 v19 v20 t16.f0 t16.f1 t16.f2 t16.f3 v2 (v1.length:Int) aa ab)) else (if (decide (ac=3))=true then (X1 v5 v6 v7 v8 v9 v10 v11 v12 v13 v14 v15 v16 v17 v18 v19 v20 v2 (v1.length:Int) aa ab) else (X2 v5 v6 v7 v8 v9 v10 v11 v12 v13 v14 v15 v16 v17 v18 v19 v20 v2 (v1.length:Int) aa ab))))) v3 v4 (v4.length:Int) k 0 [])) v1 (v1.length:Int) k 0 [])
end
noncomputable def dJ.f (k:Nat) (aa:Int) (ab:Int) (ac:List (List P.S42)) (af:List P.S44) (ah:Int) (ai:Int) (aj:List (List P.S42)) (ak:List P.S44):Option (P.S25 × Int):=((dK.f k aa ab ac af).bind fun t1=>((dK.f k ah ai aj ak).bind fun t2=>((dL.f k t1.f0 t1.f1 t1.f2 t1.f3 t2.f0 t2.f1 t2.f2 t2.f3).bind fun t3=>(if (!(decide (t3.2.2=0)))=true then (some ((⟨0,0,[],[]⟩:P.S25),t3.2.2)) else ((dO.f k t1.f0 t1.f1 t1.f2 t1.f3 t2.f0 t2.f1 t2.f2 t2.f3).bind fun t4=>((dS.f k t3.1).bind fun t5=>(if (!t5)=true then (some ((⟨0,0,[],[]⟩:P.S25),51)) else ((dS.f k t4.2).bind fun t6=>(if (!t6)=true then (some ((⟨0,0,[],[]⟩:P.S25),51)) else (dJ.l0 (fun aq au aw y20 y21 y22 y23 y24 y25 ax y27 y28 y29 ay y31 y32 am y34 ao ap az y38 y39 aA=>(some ((⟨am,y34,ao,ap⟩:P.S25),0))) (fun aB aC aD aE aF aG aH aI aJ aK aL aM aN aO aP aQ aR aS aT aU=>(some ((⟨0,0,[],[]⟩:P.S25),3))) (fun aV aW aX aY aZ a2 a3 a4 a5 a6 a7 a8 a9 ba bb be bf bg bh bi=>(some ((⟨0,0,[],[]⟩:P.S25),51))) k t3.1 t3.2.1 t4.1 t4.2 aa ab ac af ah ai aj ak t1.f0 t1.f1 t1.f2 t1.f3 t2.f0 t2.f1 t2.f2 t2.f3))))))))))
section
variable {γ:Type} (X0:(List (List P.S42))→Option γ) (c3:List P2) (c4:Int)
noncomputable def dG.l1T (R:Int→(List (List P.S42))→Option γ) (k:Nat) (v5:Int) (v24:List (List P.S42)):Option γ:=(if (decide (v5<c4))=true then (if 0≤v5 then (if v5<(c3.length:Int) then ((gV.f k (gP c3 v5).f0 (gP c3 v5).f1).bind fun t9=>(if v24.length+1≤5864062014805 then (R (wq (v5+1)) (v24++[t9])) else none)) else none) else none) else (X0 v24))
noncomputable def dG.l1:Nat→Int→(List (List P.S42))→Option γ
  | 0=>(fun _ _=>none)
  | k+1=>(fun v5 v24=>(dG.l1T X0 c3 c4 (dG.l1 k) k v5 v24))
end
section
variable {γ:Type} (X0:(List P.S44)→Option γ) (c1:List Int) (c2:List P2) (c3:Int)
noncomputable def dG.l2T (R:Int→(List P.S44)→Option γ) (k:Nat) (v4:Int) (v24:List P.S44):Option γ:=(if (decide (v4<c3))=true then (if 0≤v4 then (if v4<(c2.length:Int) then (if 0≤v4 then (if v4<(c1.length:Int) then ((gV.f k (gP c2 v4).f0 (gP c2 v4).f1).bind fun aa=>(if v24.length+1≤4398046511104 then (R (wq (v4+1)) (v24++[(⟨(gI c1 v4),aa⟩:P.S44)])) else none)) else none) else none) else none) else none) else (X0 v24))
noncomputable def dG.l2:Nat→Int→(List P.S44)→Option γ
  | 0=>(fun _ _=>none)
  | k+1=>(fun v4 v24=>(dG.l2T X0 c1 c2 c3 (dG.l2 k) k v4 v24))
end
section
variable {γ:Type} (X0:Int→Int→(List (List P.S42))→(List P.S44)→Int→Int→(List (List P.S42))→(List P.S44)→Int→Int→(List (List P.S42))→(List P.S44)→Int→Int→(List (List P.S42))→(List P.S44)→Int→Int→(List (List P.S42))→(List P.S44)→Int→Int→(List (List P.S42))→(List P.S44)→Option γ) (X1:Int→Int→(List (List P.S42))→(List P.S44)→Int→Int→(List (List P.S42))→(List P.S44)→Int→Int→(List (List P.S42))→(List P.S44)→Int→Int→(List (List P.S42))→(List P.S44)→Int→Int→(List (List P.S42))→(List P.S44)→Option γ) (X2:Int→Int→(List (List P.S42))→(List P.S44)→Int→Int→(List (List P.S42))→(List P.S44)→Int→Int→(List (List P.S42))→(List P.S44)→Int→Int→(List (List P.S42))→(List P.S44)→Int→Int→(List (List P.S42))→(List P.S44)→Option γ)
noncomputable def dG.l0 (k:Nat) (v1:List P2) (v2:Int) (v3:List Int) (v4:List P2) (v5:Int) (v6:Int) (v7:List (List P.S42)) (v8:List P.S44) (v9:Int) (v10:Int) (v11:List (List P.S42)) (v12:List P.S44) (v13:Int) (v14:Int) (v15:List (List P.S42)) (v16:List P.S44) (v17:Int) (v18:Int) (v19:List (List P.S42)) (v20:List P.S44):Option γ:=(dG.l1 (fun aa=>(dG.l2 (fun ab=>((dH.f k v2 (v1.length:Int) aa ab).bind fun ac=>(if (decide (ac=0))=true then ((dK.f k v2 (v1.length:Int) aa ab).bind fun t16=>(X0 v5 v6 v7 v8 v9 v10 v11 v12 v13 v14 v15 v16 v17 v18 v19 v20 t16.f0 t16.f1 t16.f2 t16.f3 v2 (v1.length:Int) aa ab)) else (if (decide (ac=3))=true then (X1 v5 v6 v7 v8 v9 v10 v11 v12 v13 v14 v15 v16 v17 v18 v19 v20 v2 (v1.length:Int) aa ab) else (X2 v5 v6 v7 v8 v9 v10 v11 v12 v13 v14 v15 v16 v17 v18 v19 v20 v2 (v1.length:Int) aa ab))))) v3 v4 (v4.length:Int) k 0 [])) v1 (v1.length:Int) k 0 [])
end
noncomputable def dG.f (k:Nat) (aa:Int) (ab:Int) (ac:List (List P.S42)) (af:List P.S44) (ah:Int) (ai:Int) (aj:List (List P.S42)) (ak:List P.S44):Option (P.S25 × Int):=((dK.f k aa ab ac af).bind fun t1=>((dK.f k ah ai aj ak).bind fun t2=>((dL.f k t1.f0 t1.f1 t1.f2 t1.f3 t2.f0 t2.f1 t2.f2 t2.f3).bind fun t3=>(if (!(decide (t3.2.2=0)))=true then (some ((⟨0,0,[],[]⟩:P.S25),t3.2.2)) else ((dO.f k t1.f0 t1.f1 t1.f2 t1.f3 t2.f0 t2.f1 t2.f2 t2.f3).bind fun t4=>((dS.f k t3.1).bind fun t5=>(if (!t5)=true then (some ((⟨0,0,[],[]⟩:P.S25),51)) else ((dS.f k t4.2).bind fun t6=>(if (!t6)=true then (some ((⟨0,0,[],[]⟩:P.S25),51)) else (dG.l0 (fun aq au aw y20 y21 y22 y23 y24 y25 ax y27 y28 y29 ay y31 y32 am y34 ao ap az y38 y39 aA=>(some ((⟨am,y34,ao,ap⟩:P.S25),0))) (fun aB aC aD aE aF aG aH aI aJ aK aL aM aN aO aP aQ aR aS aT aU=>(some ((⟨0,0,[],[]⟩:P.S25),3))) (fun aV aW aX aY aZ a2 a3 a4 a5 a6 a7 a8 a9 ba bb be bf bg bh bi=>(some ((⟨0,0,[],[]⟩:P.S25),51))) k t3.1 t3.2.1 t4.1 t4.2 aa ab ac af ah ai aj ak t1.f0 t1.f1 t1.f2 t1.f3 t2.f0 t2.f1 t2.f2 t2.f3))))))))))
section
variable {γ:Type} (X0:Option γ) (X1:Option γ) (c1:List P.S42) (c2:List P.S42) (c3:Int)
noncomputable def dM.l0T (R:Int→Option γ) (k:Nat) (v4:Int):Option γ:=(if (decide (v4<c3))=true then (if 0≤v4 then (if v4<(c2.length:Int) then (if 0≤v4 then (if v4<(c1.length:Int) then (if (!(((gS c1 v4).f0==(gS c2 v4).f0)&&((gS c1 v4).f1==(gS c2 v4).f1)))=true then X0 else (R (wq (v4+1)))) else none) else none) else none) else none) else X1)
noncomputable def dM.l0:Nat→Int→Option γ
  | 0=>(fun _=>none)
  | k+1=>(fun v4=>(dM.l0T X0 X1 c1 c2 c3 (dM.l0 k) k v4))
end
noncomputable def dM.f (k:Nat) (a0:List P.S42) (a1:List P.S42):Option (Bool):=(if (!(decide ((a0.length:Int)=(a1.length:Int))))=true then (some false) else (dM.l0 (some false) (some true) a1 a0 (a0.length:Int) k 0))
section
variable {γ:Type} (X0:Option γ) (X1:Option γ) (c1:List (List P.S42)) (c2:Int) (c10:List (List P.S42))
noncomputable def cZ.l1T (R:Int→Option γ) (k:Nat) (v3:Int):Option γ:=(if (decide (v3<c2))=true then (if 0≤v3 then (if v3<(c1.length:Int) then (if 0≤v3 then (if v3<(c10.length:Int) then ((dM.f k (gL c1 v3) (gL c10 v3)).bind fun t3=>(if (!t3)=true then X0 else (R (wq (v3+1))))) else none) else none) else none) else none) else X1)
noncomputable def cZ.l1:Nat→Int→Option γ
  | 0=>(fun _=>none)
  | k+1=>(fun v3=>(cZ.l1T X0 X1 c1 c2 c10 (cZ.l1 k) k v3))
end
section
variable {γ:Type} (X0:Option γ) (X1:Option γ) (c1:List P.S44) (c2:Int) (c11:List P.S44)
noncomputable def cZ.l2T (R:Int→Option γ) (k:Nat) (v3:Int):Option γ:=(if (decide (v3<c2))=true then (if 0≤v3 then (if v3<(c1.length:Int) then (if 0≤v3 then (if v3<(c11.length:Int) then (if (!(decide ((gG c1 v3).f0=(gG c11 v3).f0)))=true then X0 else (if 0≤v3 then (if v3<(c11.length:Int) then ((dM.f k (gG c1 v3).f1 (gG c11 v3).f1).bind fun t6=>(if (!t6)=true then X0 else (R (wq (v3+1))))) else none) else none)) else none) else none) else none) else none) else X1)
noncomputable def cZ.l2:Nat→Int→Option γ
  | 0=>(fun _=>none)
  | k+1=>(fun v3=>(cZ.l2T X0 X1 c1 c2 c11 (cZ.l2 k) k v3))
end
section
variable {γ:Type} (X0:Int→Int→(List (List P.S42))→(List P.S44)→Int→Int→(List (List P.S42))→(List P.S44)→Option γ) (X1:Int→Int→(List (List P.S42))→(List P.S44)→Int→Int→(List (List P.S42))→(List P.S44)→Option γ)
noncomputable def cZ.l0 (k:Nat) (v1:Int) (v2:Int) (v3:List (List P.S42)) (v4:List P.S44) (v5:Int) (v6:Int) (v7:List (List P.S42)) (v8:List P.S44):Option γ:=(cZ.l1 (X0 v1 v2 v3 v4 v5 v6 v7 v8) (cZ.l2 (X0 v1 v2 v3 v4 v5 v6 v7 v8) (X1 v1 v2 v3 v4 v5 v6 v7 v8) v4 (v4.length:Int) v8 k 0) v3 (v3.length:Int) v7 k 0)
end
noncomputable def cZ.f (k:Nat) (aa:Int) (ab:Int) (ac:List (List P.S42)) (af:List P.S44) (ah:Int) (ai:Int) (aj:List (List P.S42)) (ak:List P.S44):Option (Bool):=(if (!(decide (aa=ah)))=true then (some false) else (if (!(decide (ab=ai)))=true then (some false) else (if (!(decide ((ac.length:Int)=(aj.length:Int))))=true then (some false) else (if (!(decide ((af.length:Int)=(ak.length:Int))))=true then (some false) else (cZ.l0 (fun y7 y8 y9 am ao ap y13 aq=>(some false)) (fun au aw ax ay az y20 y21 y22=>(some true)) k aa ab ac af ah ai aj ak)))))
noncomputable def eX.f (k:Nat)  : Option (P.S25):=(some (⟨7,7,[[(⟨0,0⟩:P.S42)],[],[],[],[],[],[]],[]⟩:P.S25))
noncomputable def eY.f (k:Nat)  : Option (P.S25):=(some (⟨7,7,[[],[(⟨1,1⟩:P.S42)],[],[],[],[],[]],[]⟩:P.S25))
noncomputable def gW.f (k:Nat) (ab:Int) (aa:Int) (ac:List (List P.S42)) (af:List P.S44) (a1:Int):Option (Int × Int):=(if (decide (aa=0))=true then (some (0,0)) else ((iQ.f k aa a1).bind fun t1=>(if a1=0 then none else (some ((wq (Int.tdiv t1.1 a1)),t1.1)))))
noncomputable def iC.f (k:Nat) (aa:Int) (ab:Int) (ac:List (List P.S42)) (af:List P.S44):Option (P.S25 × Int):=((dH.f k aa ab ac af).bind fun t1=>(if (decide (t1=0))=true then ((dK.f k aa ab ac af).bind fun t2=>(some (t2,0))) else (if (decide (t1=3))=true then (some ((⟨0,0,[],[]⟩:P.S25),3)) else (some ((⟨0,0,[],[]⟩:P.S25),20)))))
section
variable {γ:Type} (Y0:(List P.S42)→Int→Int→Int→(List (List P.S42))→(List P.S44)→Int→Int→(List (List P.S42))→(List P.S44)→Int→(List P.S42)→(List P.S42)→Int→Int→(Int→Int→(List (List P.S42))→(List P.S44)→Int→Int→(List (List P.S42))→(List P.S44)→Int→(List P.S42)→Int→(List P.S42)→Int→Int→Option γ)→(Int→Int→(List (List P.S42))→(List P.S44)→Int→Int→(List (List P.S42))→(List P.S44)→Int→(List P.S42)→(List P.S42)→Int→Int→Option γ)→Option γ) (X0:Int→Int→(List (List P.S42))→(List P.S44)→Int→Int→(List (List P.S42))→(List P.S44)→Int→(List P.S42)→Int→(List P.S42)→Int→Int→Option γ) (X1:Int→Int→(List (List P.S42))→(List P.S44)→Int→Int→(List (List P.S42))→(List P.S44)→Int→(List P.S42)→(List P.S42)→Int→Int→Option γ) (c1:Int)
noncomputable def dh.l1T (R:Int→Int→Int→(List (List P.S42))→(List P.S44)→Int→Int→(List (List P.S42))→(List P.S44)→Int→(List P.S42)→(List P.S42)→Int→Int→Option γ) (k:Nat) (v2:Int) (v3:Int) (v4:Int) (v5:List (List P.S42)) (v6:List P.S44) (v7:Int) (v8:Int) (v9:List (List P.S42)) (v10:List P.S44) (v11:Int) (v12:List P.S42) (v13:List P.S42) (v14:Int) (v15:Int):Option γ:=(if (decide (v2<c1))=true then ((fU.f k v3 v4 v5 v6 (wq (v14+v2))).bind fun aa=>(Y0 aa.1 aa.2 v3 v4 v5 v6 v7 v8 v9 v10 v11 v12 v13 v14 v15 X0 (fun ab ac af ah ai aj ak am ao ap aq au aw=>(R (wq (v2+1)) ab ac af ah ai aj ak am ao ap aq au aw)))) else (X1 v3 v4 v5 v6 v7 v8 v9 v10 v11 v12 v13 v14 v15))
noncomputable def dh.l1:Nat→Int→Int→Int→(List (List P.S42))→(List P.S44)→Int→Int→(List (List P.S42))→(List P.S44)→Int→(List P.S42)→(List P.S42)→Int→Int→Option γ
  | 0=>(fun _ _ _ _ _ _ _ _ _ _ _ _ _ _=>none)
  | k+1=>(fun v2 v3 v4 v5 v6 v7 v8 v9 v10 v11 v12 v13 v14 v15=>(dh.l1T Y0 X0 X1 c1 (dh.l1 k) k v2 v3 v4 v5 v6 v7 v8 v9 v10 v11 v12 v13 v14 v15))
end
section
variable {γ:Type} (X0:Int→Int→(List (List P.S42))→(List P.S44)→Int→Int→(List (List P.S42))→(List P.S44)→Option γ) (X1:Int→Int→(List (List P.S42))→(List P.S44)→Int→Int→(List (List P.S42))→(List P.S44)→Option γ) (c1:Int) (c2:List P.S44) (c3:Int)
noncomputable def dh.l0T (R:Int→Int→Int→(List (List P.S42))→(List P.S44)→Int→Int→(List (List P.S42))→(List P.S44)→Option γ) (k:Nat) (v4:Int) (v5:Int) (v6:Int) (v7:List (List P.S42)) (v8:List P.S44) (v9:Int) (v10:Int) (v11:List (List P.S42)) (v12:List P.S44):Option γ:=(if (decide (v4<c3))=true then (if 0≤v4 then (if v4<(c2.length:Int) then ((fJ.f k (gG c2 v4).f0 c1).bind fun ah=>(if (decide ((v12.length:Int)>0))=true then (if 0≤(wq ((v12.length:Int) - 1)) then (if (wq ((v12.length:Int) - 1))<(v12.length:Int) then (if (decide ((gG v12 (wq ((v12.length:Int) - 1))).f0=ah.1))=true then (R (wq (v4+1)) v5 v6 v7 v8 v9 v10 v11 v12) else (dh.l1 (fun ac aO ai aj ak am ao ap aq au aw ax aa ay az x0 x1=>(if (!(decide (aO=0)))=true then (x0 ai aj ak am ao ap aq au aw ax aO aa ay az) else (if (decide ((aa.length:Int)>0))=true then (if (decide ((ac.length:Int)>0))=true then (if 0<(ac.length:Int) then (if 0≤(wq ((aa.length:Int) - 1)) then (if (wq ((aa.length:Int) - 1))<(aa.length:Int) then (if (decide ((gS ac 0).f0=(wq ((gS aa (wq ((aa.length:Int) - 1))).f1+1))))=true then (if 0<(ac.length:Int) then (if 0≤(wq ((aa.length:Int) - 1)) then (if (wq ((aa.length:Int) - 1))<(aa.length:Int) then (if 1≤(ac.length:Int) then (if (aa.set (Int.toNat (wq ((aa.length:Int) - 1))) (⟨(gS aa (wq ((aa.length:Int) - 1))).f0,(gS ac 0).f1⟩:P.S42)).length+(ac.drop 1).length≤8796093022208 then (x1 ai aj ak am ao ap aq au aw ax ((aa.set (Int.toNat (wq ((aa.length:Int) - 1))) (⟨(gS aa (wq ((aa.length:Int) - 1))).f0,(gS ac 0).f1⟩:P.S42))++(ac.drop 1)) ay az) else none) else none) else none) else none) else none) else (if aa.length+ac.length≤8796093022208 then (x1 ai aj ak am ao ap aq au aw ax (aa++ac) ay az) else none)) else none) else none) else none) else (if aa.length+ac.length≤8796093022208 then (x1 ai aj ak am ao ap aq au aw ax (aa++ac) ay az) else none)) else (if aa.length+ac.length≤8796093022208 then (x1 ai aj ak am ao ap aq au aw ax (aa++ac) ay az) else none)))) (fun aP aQ aR aS aT aU aV aM bv bw a8 bz bA bB=>(if (!(decide (a8=0)))=true then (X0 aP aQ aR aS aT aU aV aM) else (if aM.length+1≤4398046511104 then (R (wq (v4+1)) aP aQ aR aS aT aU aV (aM++[(⟨ah.1,[]⟩:P.S44)])) else none))) (fun a9 ba bb be bf bg bh aW bC bD bi bE bG=>(if aW.length+1≤4398046511104 then (R (wq (v4+1)) a9 ba bb be bf bg bh (aW++[(⟨ah.1,bi⟩:P.S44)])) else none)) c1 k 0 v5 v6 v7 v8 v9 v10 v11 v12 (gG c2 v4).f0 (gG c2 v4).f1 [] (wq (ah.1*c1)) c1)) else none) else none) else (dh.l1 (fun af aX aA aB aC aD aE aF aG aH aI aJ ab aK aL x0 x1=>(if (!(decide (aX=0)))=true then (x0 aA aB aC aD aE aF aG aH aI aJ aX ab aK aL) else (if (decide ((ab.length:Int)>0))=true then (if (decide ((af.length:Int)>0))=true then (if 0<(af.length:Int) then (if 0≤(wq ((ab.length:Int) - 1)) then (if (wq ((ab.length:Int) - 1))<(ab.length:Int) then (if (decide ((gS af 0).f0=(wq ((gS ab (wq ((ab.length:Int) - 1))).f1+1))))=true then (if 0<(af.length:Int) then (if 0≤(wq ((ab.length:Int) - 1)) then (if (wq ((ab.length:Int) - 1))<(ab.length:Int) then (if 1≤(af.length:Int) then (if (ab.set (Int.toNat (wq ((ab.length:Int) - 1))) (⟨(gS ab (wq ((ab.length:Int) - 1))).f0,(gS af 0).f1⟩:P.S42)).length+(af.drop 1).length≤8796093022208 then (x1 aA aB aC aD aE aF aG aH aI aJ ((ab.set (Int.toNat (wq ((ab.length:Int) - 1))) (⟨(gS ab (wq ((ab.length:Int) - 1))).f0,(gS af 0).f1⟩:P.S42))++(af.drop 1)) aK aL) else none) else none) else none) else none) else none) else (if ab.length+af.length≤8796093022208 then (x1 aA aB aC aD aE aF aG aH aI aJ (ab++af) aK aL) else none)) else none) else none) else none) else (if ab.length+af.length≤8796093022208 then (x1 aA aB aC aD aE aF aG aH aI aJ (ab++af) aK aL) else none)) else (if ab.length+af.length≤8796093022208 then (x1 aA aB aC aD aE aF aG aH aI aJ (ab++af) aK aL) else none)))) (fun aY aZ a2 a3 a4 a5 a6 aN bH bI bj bJ bL bM=>(if (!(decide (bj=0)))=true then (X0 aY aZ a2 a3 a4 a5 a6 aN) else (if aN.length+1≤4398046511104 then (R (wq (v4+1)) aY aZ a2 a3 a4 a5 a6 (aN++[(⟨ah.1,[]⟩:P.S44)])) else none))) (fun bk bm bn bo bq br bt a7 bN bO bu bP bQ=>(if a7.length+1≤4398046511104 then (R (wq (v4+1)) bk bm bn bo bq br bt (a7++[(⟨ah.1,bu⟩:P.S44)])) else none)) c1 k 0 v5 v6 v7 v8 v9 v10 v11 v12 (gG c2 v4).f0 (gG c2 v4).f1 [] (wq (ah.1*c1)) c1))) else none) else none) else (X1 v5 v6 v7 v8 v9 v10 v11 v12))
noncomputable def dh.l0:Nat→Int→Int→Int→(List (List P.S42))→(List P.S44)→Int→Int→(List (List P.S42))→(List P.S44)→Option γ
  | 0=>(fun _ _ _ _ _ _ _ _ _=>none)
  | k+1=>(fun v4 v5 v6 v7 v8 v9 v10 v11 v12=>(dh.l0T X0 X1 c1 c2 c3 (dh.l0 k) k v4 v5 v6 v7 v8 v9 v10 v11 v12))
end
section
variable {γ:Type} (X0:Int→Option γ) (c5:List (List P.S42)) (c6:Int)
noncomputable def dh.l2T (R:Int→Int→Option γ) (k:Nat) (v4:Int) (v7:Int):Option γ:=(if (decide (v7<c6))=true then (if 0≤v7 then (if v7<(c5.length:Int) then (R (wq (v4+((gL c5 v7).length:Int))) (wq (v7+1))) else none) else none) else (X0 v4))
noncomputable def dh.l2:Nat→Int→Int→Option γ
  | 0=>(fun _ _=>none)
  | k+1=>(fun v4 v7=>(dh.l2T X0 c5 c6 (dh.l2 k) k v4 v7))
end
section
variable {γ:Type} (Y0:(List P.S42)→Int→Int→Int→(List (List P.S42))→(List P.S44)→Int→Int→(List (List P.S42))→(List P.S44)→Int→Int→(List (List P.S42))→(List P.S42)→Int→Int→(Int→Int→(List (List P.S42))→(List P.S44)→Int→Int→(List (List P.S42))→(List P.S44)→Int→Int→(List (List P.S42))→Int→(List P.S42)→Int→Int→Option γ)→(Int→Int→(List (List P.S42))→(List P.S44)→Int→Int→(List (List P.S42))→(List P.S44)→Int→Int→(List (List P.S42))→(List P.S42)→Int→Int→Option γ)→Option γ) (X0:Int→Int→(List (List P.S42))→(List P.S44)→Int→Int→(List (List P.S42))→(List P.S44)→Int→Int→(List (List P.S42))→Int→(List P.S42)→Int→Int→Option γ) (X1:Int→Int→(List (List P.S42))→(List P.S44)→Int→Int→(List (List P.S42))→(List P.S44)→Int→Int→(List (List P.S42))→(List P.S42)→Int→Int→Option γ) (c1:Int)
noncomputable def dh.l4T (R:Int→Int→Int→(List (List P.S42))→(List P.S44)→Int→Int→(List (List P.S42))→(List P.S44)→Int→Int→(List (List P.S42))→(List P.S42)→Int→Int→Option γ) (k:Nat) (v2:Int) (v3:Int) (v4:Int) (v5:List (List P.S42)) (v6:List P.S44) (v7:Int) (v8:Int) (v9:List (List P.S42)) (v10:List P.S44) (v11:Int) (v12:Int) (v13:List (List P.S42)) (v14:List P.S42) (v15:Int) (v16:Int):Option γ:=(if (decide (v2<c1))=true then ((gJ.f k v7 v8 v9 v10 (wq (v15+v2))).bind fun aa=>(Y0 aa.1 aa.2 v3 v4 v5 v6 v7 v8 v9 v10 v11 v12 v13 v14 v15 v16 X0 (fun ab ac af ah ai aj ak am ao ap aq au aw ax=>(R (wq (v2+1)) ab ac af ah ai aj ak am ao ap aq au aw ax)))) else (X1 v3 v4 v5 v6 v7 v8 v9 v10 v11 v12 v13 v14 v15 v16))
noncomputable def dh.l4:Nat→Int→Int→Int→(List (List P.S42))→(List P.S44)→Int→Int→(List (List P.S42))→(List P.S44)→Int→Int→(List (List P.S42))→(List P.S42)→Int→Int→Option γ
  | 0=>(fun _ _ _ _ _ _ _ _ _ _ _ _ _ _ _=>none)
  | k+1=>(fun v2 v3 v4 v5 v6 v7 v8 v9 v10 v11 v12 v13 v14 v15 v16=>(dh.l4T Y0 X0 X1 c1 (dh.l4 k) k v2 v3 v4 v5 v6 v7 v8 v9 v10 v11 v12 v13 v14 v15 v16))
end
section
variable {γ:Type} (X0:Int→Int→Int→(List (List P.S42))→(List P.S44)→Int→Int→(List (List P.S42))→(List P.S44)→Int→Int→(List (List P.S42))→Option γ) (X1:Int→Int→(List (List P.S42))→(List P.S44)→Int→Int→(List (List P.S42))→(List P.S44)→Int→Int→(List (List P.S42))→Option γ) (c1:Int) (c2:Int)
noncomputable def dh.l3T (R:Int→Int→Int→(List (List P.S42))→(List P.S44)→Int→Int→(List (List P.S42))→(List P.S44)→Int→Int→(List (List P.S42))→Option γ) (k:Nat) (v3:Int) (v4:Int) (v5:Int) (v6:List (List P.S42)) (v7:List P.S44) (v8:Int) (v9:Int) (v10:List (List P.S42)) (v11:List P.S44) (v12:Int) (v13:Int) (v14:List (List P.S42)):Option γ:=(if (decide (v3<c2))=true then (dh.l4 (fun ab az ac af ah ai aj ak am ao ap aq au aa aw ax x0 x1=>(if (!(decide (az=0)))=true then (x0 ac af ah ai aj ak am ao ap aq au az aa aw ax) else (if (decide ((aa.length:Int)>0))=true then (if (decide ((ab.length:Int)>0))=true then (if 0<(ab.length:Int) then (if 0≤(wq ((aa.length:Int) - 1)) then (if (wq ((aa.length:Int) - 1))<(aa.length:Int) then (if (decide ((gS ab 0).f0=(wq ((gS aa (wq ((aa.length:Int) - 1))).f1+1))))=true then (if 0<(ab.length:Int) then (if 0≤(wq ((aa.length:Int) - 1)) then (if (wq ((aa.length:Int) - 1))<(aa.length:Int) then (if 1≤(ab.length:Int) then (if (aa.set (Int.toNat (wq ((aa.length:Int) - 1))) (⟨(gS aa (wq ((aa.length:Int) - 1))).f0,(gS ab 0).f1⟩:P.S42)).length+(ab.drop 1).length≤8796093022208 then (x1 ac af ah ai aj ak am ao ap aq au ((aa.set (Int.toNat (wq ((aa.length:Int) - 1))) (⟨(gS aa (wq ((aa.length:Int) - 1))).f0,(gS ab 0).f1⟩:P.S42))++(ab.drop 1)) aw ax) else none) else none) else none) else none) else none) else (if aa.length+ab.length≤8796093022208 then (x1 ac af ah ai aj ak am ao ap aq au (aa++ab) aw ax) else none)) else none) else none) else none) else (if aa.length+ab.length≤8796093022208 then (x1 ac af ah ai aj ak am ao ap aq au (aa++ab) aw ax) else none)) else (if aa.length+ab.length≤8796093022208 then (x1 ac af ah ai aj ak am ao ap aq au (aa++ab) aw ax) else none)))) (fun aA aB aC aD aE aF aG aH aI aJ ay aK aX aY aZ=>(if (!(decide (aK=0)))=true then (X0 aK aA aB aC aD aE aF aG aH aI aJ ay) else (if ay.length+1≤5864062014805 then (R (wq (v3+1)) aA aB aC aD aE aF aG aH aI aJ (ay++[[]])) else none))) (fun aM aN aO aP aQ aR aS aT aU aV aL aW a2 a3=>(if aL.length+1≤5864062014805 then (R (wq (v3+1)) aM aN aO aP aQ aR aS aT aU aV (aL++[aW])) else none)) c1 k 0 v4 v5 v6 v7 v8 v9 v10 v11 v12 v13 v14 [] (wq (v3*c1)) c1) else (X1 v4 v5 v6 v7 v8 v9 v10 v11 v12 v13 v14))
noncomputable def dh.l3:Nat→Int→Int→Int→(List (List P.S42))→(List P.S44)→Int→Int→(List (List P.S42))→(List P.S44)→Int→Int→(List (List P.S42))→Option γ
  | 0=>(fun _ _ _ _ _ _ _ _ _ _ _ _=>none)
  | k+1=>(fun v3 v4 v5 v6 v7 v8 v9 v10 v11 v12 v13 v14=>(dh.l3T X0 X1 c1 c2 (dh.l3 k) k v3 v4 v5 v6 v7 v8 v9 v10 v11 v12 v13 v14))
end
noncomputable def dh.f (k:Nat) (af:Int) (aa:Int) (ab:List (List P.S42)) (ac:List P.S44) (a1:Int):Option (P.S25 × Int):=(if (decide (a1<1))=true then (some ((⟨0,0,[],[]⟩:P.S25),2)) else (if (decide (a1>6000))=true then (some ((⟨0,0,[],[]⟩:P.S25),2)) else ((gW.f k af aa ab ac a1).bind fun t1=>(if (decide (t1.1=0))=true then (dh.l0 (fun aQ aR aS aT aU aV aW aX=>(some ((⟨0,0,[],[]⟩:P.S25),20))) (fun aY aZ a2 a3 aq au aw ax=>((iC.f k aq au aw ax).bind fun ak=>(some (ak.1,ak.2)))) a1 ac (ac.length:Int) k 0 af aa ab ac 0 0 [] []) else (dh.l2 (fun ay=>(if aa=0 then none else (if (decide ((wq (ay*(wq (Int.tdiv t1.2 aa))))>60000))=true then (some ((⟨0,0,[],[]⟩:P.S25),3)) else (if aa=0 then none else ((gN.f k af (wq (Int.tdiv t1.2 aa))).bind fun ah=>(if (!(decide (ah.2=0)))=true then (some ((⟨0,0,[],[]⟩:P.S25),20)) else (if (decide (ah.1>1099511627776))=true then (some ((⟨0,0,[],[]⟩:P.S25),20)) else (dh.l3 (fun am az aA aB ai a4 a5 a6 a7 a8 a9 ba=>(if (!(decide (am=0)))=true then (some ((⟨0,0,[],[]⟩:P.S25),am)) else (dh.l0 (fun bb be bf bg bh bi bj bk=>(some ((⟨0,0,[],[]⟩:P.S25),20))) (fun bm bn bo bq aC aD aE aF=>((iC.f k aC aD aE aF).bind fun ao=>(some (ao.1,ao.2)))) a1 ai (ai.length:Int) k 0 az aA aB ai 0 0 [] []))) (fun aG aH aI aj br bt bu bv aJ aK aL=>(dh.l0 (fun bw bz bA bB bC bD bE bG=>(some ((⟨0,0,[],[]⟩:P.S25),20))) (fun bH bI bJ bL aM aN aO aP=>((iC.f k aM aN aO aP).bind fun ap=>(some (ap.1,ap.2)))) a1 aj (aj.length:Int) k 0 aG aH aI aj aJ aK aL [])) a1 t1.1 k 0 af aa ab ac af aa ab ac ah.1 t1.1 [])))))))) ab (ab.length:Int) k 0 0)))))
noncomputable def fP.f (k:Nat)  : Option (P.S25):=(some (⟨1,1,[[(⟨0,0⟩:P.S42)]],[]⟩:P.S25))
noncomputable def fK.f (k:Nat) (aa:Int) (ab:Int) (ac:List (List P.S42)) (af:List P.S44) (a1:Int) (a2:Int) (a3:Int):Option (Bool):=((fU.f k aa ab ac af a1).bind fun t1=>(if (!(decide (t1.2=0)))=true then (some false) else (if (decide ((t1.1.length:Int)>1))=true then (some false) else (if (decide (a2>a3))=true then (some (decide ((t1.1.length:Int)=0))) else (if (decide ((t1.1.length:Int)=1))=true then (if 0<(t1.1.length:Int) then (some (((gS t1.1 0).f0==a2)&&((gS t1.1 0).f1==a3))) else none) else (some false))))))
noncomputable def eF.f (k:Nat)  : Option (Bool):=((eX.f k).bind fun t1=>((eY.f k).bind fun t2=>((dA.f k t1.f0 t1.f1 t1.f2 t1.f3 t2.f0 t2.f1 t2.f2 t2.f3).bind fun t3=>((dJ.f k t1.f0 t1.f1 t1.f2 t1.f3 t2.f0 t2.f1 t2.f2 t2.f3).bind fun t4=>((dG.f k t1.f0 t1.f1 t1.f2 t1.f3 t2.f0 t2.f1 t2.f2 t2.f3).bind fun t5=>((fP.f k).bind fun t6=>((dh.f k t6.f0 t6.f1 t6.f2 t6.f3 7).bind fun t7=>((fP.f k).bind fun t8=>((dA.f k t8.f0 t8.f1 t8.f2 t8.f3 t7.1.f0 t7.1.f1 t7.1.f2 t7.1.f3).bind fun t9=>((eX.f k).bind fun t10=>((dJ.f k t1.f0 t1.f1 t1.f2 t1.f3 t10.f0 t10.f1 t10.f2 [(⟨7,[]⟩:P.S44)]).bind fun t11=>((dG.f k t1.f0 t1.f1 t1.f2 t1.f3 t10.f0 t10.f1 t10.f2 [(⟨7,[]⟩:P.S44)]).bind fun t12=>(if (!(decide (t3.2=0)))=true then (some false) else (if (!(decide (t4.2=0)))=true then (some false) else (if (!(decide (t5.2=0)))=true then (some false) else (if (!(decide (t7.2=0)))=true then (some false) else (if (!(decide (t9.2=51)))=true then (some false) else (if (!(decide (t11.2=0)))=true then (some false) else (if (!(decide (t12.2=0)))=true then (some false) else ((fK.f k t3.1.f0 t3.1.f1 t3.1.f2 t3.1.f3 7 7 7).bind fun aa=>(if (!aa)=true then (some false) else ((fK.f k t3.1.f0 t3.1.f1 t3.1.f2 t3.1.f3 8 8 8).bind fun ab=>(if (!ab)=true then (some false) else ((fK.f k t3.1.f0 t3.1.f1 t3.1.f2 t3.1.f3 9 1 0).bind fun ac=>(if (!ac)=true then (some false) else ((cZ.f k t4.1.f0 t4.1.f1 t4.1.f2 t4.1.f3 0 0 [] []).bind fun t16=>(if t16=true then ((cZ.f k t5.1.f0 t5.1.f1 t5.1.f2 t5.1.f3 t1.f0 t1.f1 t1.f2 t1.f3).bind fun t17=>(if t17=true then ((cZ.f k t11.1.f0 t11.1.f1 t11.1.f2 t11.1.f3 t10.f0 t10.f1 t10.f2 [(⟨7,[]⟩:P.S44)]).bind fun af=>(if af=true then (if (decide ((t12.1.f3.length:Int)=1))=true then (if 0<(t12.1.f3.length:Int) then (if (decide ((gG t12.1.f3 0).f0=7))=true then (some (decide (t12.1.f1=0))) else (some false)) else none) else (some false)) else (some false))) else (some false))) else (some false))))))))))))))))))))))))))))
noncomputable def agN.f (k:Nat) (a0:List P.S42):Option (List P.S42):=(if 0≤(a0.length:Int) then (if (a0.length:Int)≤8796093022208 then (some ((a0.take (List.replicate (Int.toNat (a0.length:Int)) (⟨0,0⟩:P.S42)).length)++((List.replicate (Int.toNat (a0.length:Int)) (⟨0,0⟩:P.S42)).drop a0.length))) else none) else none)
section
variable {γ:Type} (X0:(List (List P.S42))→Option γ) (c1:List (List P.S42)) (c2:Int)
noncomputable def aa3.l0T (R:Int→(List (List P.S42))→Option γ) (k:Nat) (v3:Int) (v10:List (List P.S42)):Option γ:=(if (decide (v3<c2))=true then (if 0≤v3 then (if v3<(c1.length:Int) then ((agN.f k (gL c1 v3)).bind fun t3=>(if v10.length+1≤5864062014805 then (R (wq (v3+1)) (v10++[t3])) else none)) else none) else none) else (X0 v10))
noncomputable def aa3.l0:Nat→Int→(List (List P.S42))→Option γ
  | 0=>(fun _ _=>none)
  | k+1=>(fun v3 v10=>(aa3.l0T X0 c1 c2 (aa3.l0 k) k v3 v10))
end
section
variable {γ:Type} (X0:(List P.S44)→Option γ) (c1:List P.S44) (c2:Int)
noncomputable def aa3.l1T (R:Int→(List P.S44)→Option γ) (k:Nat) (v3:Int) (v11:List P.S44):Option γ:=(if (decide (v3<c2))=true then (if 0≤v3 then (if v3<(c1.length:Int) then ((agN.f k (gG c1 v3).f1).bind fun t7=>(if v11.length+1≤4398046511104 then (R (wq (v3+1)) (v11++[(⟨(gG c1 v3).f0,t7⟩:P.S44)])) else none)) else none) else none) else (X0 v11))
noncomputable def aa3.l1:Nat→Int→(List P.S44)→Option γ
  | 0=>(fun _ _=>none)
  | k+1=>(fun v3 v11=>(aa3.l1T X0 c1 c2 (aa3.l1 k) k v3 v11))
end
noncomputable def aa3.f (k:Nat) (ac:Int) (af:Int) (aa:List (List P.S42)) (ab:List P.S44):Option (P.S25):=(aa3.l0 (fun y4=>(aa3.l1 (fun y8=>(some (⟨ac,af,y4,y8⟩:P.S25))) ab (ab.length:Int) k 0 [])) aa (aa.length:Int) k 0 [])
noncomputable def agV.f (k:Nat) (aa:Int) (ab:Int) (ac:List (List P.S42)) (af:List P.S44) (ah:Int) (ai:Int) (aj:List (List P.S42)) (ak:List P.S44):Option (Bool × Int):=((dK.f k aa ab ac af).bind fun t1=>((dK.f k ah ai aj ak).bind fun t2=>((dL.f k t1.f0 t1.f1 t1.f2 t1.f3 t2.f0 t2.f1 t2.f2 t2.f3).bind fun t3=>(if (!(decide (t3.2.2=0)))=true then (some (false,t3.2.2)) else ((dO.f k t1.f0 t1.f1 t1.f2 t1.f3 t2.f0 t2.f1 t2.f2 t2.f3).bind fun t4=>((dS.f k t3.1).bind fun t5=>(if t5=true then ((dS.f k t4.2).bind fun t6=>(some (t6,0))) else (some (false,0)))))))))
section
variable {γ:Type} (X0:Option γ) (X1:Option γ) (c4:List (List P.S42))
noncomputable def agx.l0T (R:Int→Option γ) (k:Nat) (v1:Int):Option γ:=(if (decide (v1<(c4.length:Int)))=true then (if 0≤v1 then (if v1<(c4.length:Int) then (if (decide (((gL c4 v1).length:Int)>0))=true then X0 else (R (wq (v1+1)))) else none) else none) else X1)
noncomputable def agx.l0:Nat→Int→Option γ
  | 0=>(fun _=>none)
  | k+1=>(fun v1=>(agx.l0T X0 X1 c4 (agx.l0 k) k v1))
end
noncomputable def agx.f (k:Nat) (ab:Int) (ac:Int) (aa:List (List P.S42)) (af:List P.S44):Option (Bool):=(agx.l0 (some false) (some true) aa k 0)
noncomputable def agG.f (k:Nat) (a0:Int) (a1:Int):Option (Int × Int):=(if a1=0 then none else (if a1=0 then none else (if (decide ((Int.tmod a0 a1)<0))=true then (some ((wq ((wq (Int.tdiv a0 a1)) - 1)),(wq ((Int.tmod a0 a1)+a1)))) else (some ((wq (Int.tdiv a0 a1)),(Int.tmod a0 a1))))))
noncomputable def agJ.f (k:Nat) (ab:Int) (ac:Int) (aa:List (List P.S42)) (af:List P.S44) (a1:Int):Option ((List P.S42) × Int):=((agG.f k a1 ac).bind fun t1=>(if 0≤t1.2 then (if t1.2<(aa.length:Int) then (some ((gL aa t1.2),(wq (t1.1*ab)))) else none) else none))
end Go.Proofs.YtcomnjodjijcmaaGreat.R
