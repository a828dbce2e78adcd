/- Lemmas for laws of chapter 7: what the functions that they reach compute. No condition of its own. -/
import Derived.Test.YtmbmalkpmanaaaaGreatYH4
import Derived.Test.YtmbmalkpmanaaaaGreatYH2
import Derived.Test.YtmbmalkpmanaaaaGreatYH9
import Derived.Test.YtmbmalkpmanaaaaGreatYH7
import Derived.Test.YtmbmalkpmanaaaaGreatYH6
namespace Go.Proofs.YtmbmalkpmanaaaaGreat.P
open Go.RowKit Go.Proofs.YtmbmalkpmanaaaaGreatW.iD Go.Proofs.YtmbmalkpmanaaaaGreatW.jA Go.Proofs.YtmbmalkpmanaaaaGreatW.jw
attribute [local go_sem] lS lT mG mH kU kV lU lV   -- for this text's walks alone
set_option linter.unusedVariables false
set_option linter.unusedSimpArgs false
mutual
def jc.l0:Nat→List (List (S38))→Int→Int→Int→Int→List (List (S38))→List (S50)→Option (Bool)
 | 0,_,_,_,_,_,_,_=>none
 | k+1,x10,x11,x12,x244000,x244001,x244002,x244003=>if x12<x11 then (if 0≤x12 then (if x12<(x10.length:Int) then ((jh.f (jr x10 x12)).bind fun aa=>(if aa.2.2=true then (if aa.1<(-100) then (some false) else (if aa.2.1>100 then (some false) else (jc.l0 k x10 x11 (wrap64 (x12+1)) x244000 x244001 x244002 x244003))) else (jc.l0 k x10 x11 (wrap64 (x12+1)) x244000 x244001 x244002 x244003))) else (none)) else (none)) else (jc.l1 k x244003 (x244003.length:Int) 0 x244000 x244001 x244002 x244003)
def jc.l1:Nat→List (S50)→Int→Int→Int→Int→List (List (S38))→List (S50)→Option (Bool)
 | 0,_,_,_,_,_,_,_=>none
 | k+1,x34,x35,x36,x244000,x244001,x244002,x244003=>if x36<x35 then (if 0≤x36 then (if x36<(x34.length:Int) then (if ((gW x34 x36).f0)<(-100) then (some false) else (if ((gW x34 x36).f0)>100 then (some false) else (jc.l1 k x34 x35 (wrap64 (x36+1)) x244000 x244001 x244002 x244003))) else (none)) else (none)) else (some (decide (x244000≤200)))
end
def jc.f (k:Nat) (ab:Int) (ac:Int) (aa:List (List (S38))) (ae:List (S50)):Option (Bool):=jc.l0 k aa (aa.length:Int) 0 ab ac aa ae
set_option maxHeartbeats 8000000 in
set_option maxRecDepth 100000 in
theorem jc.calls (k:Nat) (aJ:Int) (aK:Int) (aW:Option Addr) (aX:Nat) (ae:List (List (S38))) (aY:Option Addr) (aZ:Nat) (ag:List (S50)) (r:Bool) (w:World) (a8:Kd.C (Kd.slice 38 k38) w aW ae.length ae) (a9:ae.length≤aX) (ba:Kd.C k50 w aY ag.length ag) (bb:ag.length≤aZ) (h:jc.f k aJ aK ae ag=some r) :
 Calls Tryz.prog 5 #[.agg #[.int .i64 aJ,.int .i64 aK,.slice aW ae.length aX,.slice aY ag.length aZ]] w fun e w'=>e=.returned (.bool r)∧Below w.heap.size w w':=by
 have cJ:=Tryz.underlying25;have cK:=Tryz.underlying38;have cL:=Tryz.underlying50;have aV:=am a8;have cq:=am a9;clear a8 a9;have a4:=am ba;have cr:=am bb;clear ba bb;have HB:=am (Below.refl w.heap.size w);have H:(jc.l0 k ae (ae.length:Int) 0 aJ aK ae ag)=some r:=h;clear h;have H':=am H;clear H;go_enter Tryz.func5,Tryz.ntmps5;go_wp2_with (first | ((with_reducible refine iC (N:=1) rfl ?_);refine bx 1 25 #[.int .i64 aJ,.int .i64 aK,.slice aW ae.length aX,.slice aY ag.length aZ] ?_;intro ai hg w2 ah hb;have aa:=am (ah);have bC:=am ((bz hg HB.out:w.heap.size≤ai));have ac:=bC;replace HB:=xb HB hb;clear hb ah hg;obtain ⟨bp,bq,br,bs,bu,bv,bw,bA⟩:=b4 aa.out));go_loopg [12] k (fun kq v12 w'=>∃ (ab:Int),v12=.int .i64 ab∧gL (jc.l0 kq ae (ae.length:Int) ab aJ aK ae ag=some r)∧gL (kq≤k)∧gL (w'.heap[ai]? = some (.cells #[.int .i64 aJ,.int .i64 aK,(.slice aW ae.length aX),(.slice aY ag.length aZ)] 25 (0,0)))∧gL (Below w.heap.size w w'))
 case atStart=>exact ⟨(0),sm,H',⟨Nat.le_refl _⟩,⟨kp aa.out⟩,⟨bl1 HB.out ac.out⟩⟩
 case round =>
  clear H';try clear bp
  try clear bq
  try clear br
  try clear bs
  try clear bu
  try clear bv
  try clear bw
  try clear bA
  obtain ⟨ab,rfl,HA,a0,aa,HB⟩:=hrel;cases gk with
  | zero=>exact absurd HA.out (by simp [jc.l0])
  | succ k1 =>
   have H:=HA.out;clear HA;simp only [jc.l0] at H;by_cases c4:ab<(ae.length:Int)
   ·rw [if_pos c4] at H
    have bB:=decide_eq_true c4;clear c4;by_cases c5:0≤ab
    case neg=>rw [if_neg c5] at H;exact absurd H (by simp)
    rw [if_pos c5] at H;have cM:=decide_eq_true c5;clear c5;by_cases c6:ab<(ae.length:Int)
    case neg=>rw [if_neg c6] at H;exact absurd H (by simp)
    rw [if_pos c6] at H;have cN:=decide_eq_true c6;clear c6;replace H:=Option.bind_eq_some_iff.mp H;obtain ⟨⟨aU,aQ,bI⟩,A70,H⟩:=H;try dsimp only at H
    have A7:=am A70;clear A70;by_cases c8:bI=true
    ·subst c8
     have H1:(if aU<(-100) then (some false) else (if aQ>100 then (some false) else (jc.l0 k1 ae (ae.length:Int) (wrap64 (ab+1)) aJ aK ae ag)))=some r:=by rw [if_pos rfl] at H;exact H
     clear H;have H:=H1;clear H1;by_cases c9:aU<(-100)
     ·rw [if_pos c9] at H
      have bJ:=decide_eq_true c9;clear c9;obtain rfl:=Option.some.inj H;have au:0≤(ab:Int):=of_decide_eq_true asm;have av:ab<(ae.length:Int):=of_decide_eq_true asm;obtain ⟨a5,aF,aG,e244,ak,al,ao⟩:=nS aV.out ab au av;cases e244;replace ak:=xc HB ak;have aC:=am ao;have aD:=am al;clear ao al;replace au:=eq_true au;replace av:=eq_true av;go_wp2_with (first | ((with_reducible refine gP (f:=15) rfl ?_);refine gl 18 Tryz.func15 #[.slice aF (jr ae ab).length aG] ?_;(with_reducible refine (jh.calls _ _ (jr ae ab) aU aQ true _ ?aL ?aM A7.out).mono ?_);(case aL=>exact kc (Kd.iA aC.out HB.out));(case aM=>exact aD.out);rintro e cO ⟨rfl,hb⟩;refine ⟨_,rfl,?_⟩;replace aa:=xk aa hb;replace HB:=xb1 HB ac hb;(try clear hb)) | ((with_reducible refine iC (N:=5) rfl ?_);refine bx 5 38 #[.int .i64 0,.int .i64 0] ?_;intro ap hg cP ah hb;have aN:=am (ah);have aO:=am ((bz1 hg HB.out ac.out:w.heap.size≤ap));have aP:=aO;replace HB:=xb1 HB ac hb;have aj:=am ((nl hg aa.out:ai≠ap));have aq:=am ((ng hg aa.out:ap≠ai));replace aa:=xk aa hb;clear hb ah hg;have ct:=aq.out;have cu:=aj.out;obtain ⟨bK,bL,bM,bN⟩:=b2 aN.out));go_ret;exact ⟨rt,bl2 HB.out ac.out aP.out⟩
     ·rw [if_neg c9] at H
      have bJ:=decide_eq_false c9;clear c9;by_cases c14:aQ>100
      ·rw [if_pos c14] at H
       have bD:decide (100<aQ)=true:=decide_eq_true c14;clear c14;obtain rfl:=Option.some.inj H;have au:0≤(ab:Int):=of_decide_eq_true asm;have av:ab<(ae.length:Int):=of_decide_eq_true asm;obtain ⟨a5,aF,aG,e244,ak,al,ao⟩:=nS aV.out ab au av;cases e244;replace ak:=xc HB ak;have aC:=am ao;have aD:=am al;clear ao al;replace au:=eq_true au;replace av:=eq_true av;go_wp2_with (first | ((with_reducible refine gP (f:=15) rfl ?_);refine gl 18 Tryz.func15 #[.slice aF (jr ae ab).length aG] ?_;(with_reducible refine (jh.calls _ _ (jr ae ab) aU aQ true _ ?aL ?aM A7.out).mono ?_);(case aL=>exact kc (Kd.iA aC.out HB.out));(case aM=>exact aD.out);rintro e cQ ⟨rfl,hb⟩;refine ⟨_,rfl,?_⟩;replace aa:=xk aa hb;replace HB:=xb1 HB ac hb;(try clear hb)) | ((with_reducible refine iC (N:=5) rfl ?_);refine bx 5 38 #[.int .i64 0,.int .i64 0] ?_;intro ap hg w16 ah hb;have aN:=am (ah);have aO:=am ((bz1 hg HB.out ac.out:w.heap.size≤ap));have aP:=aO;replace HB:=xb1 HB ac hb;have aj:=am ((nl hg aa.out:ai≠ap));have aq:=am ((ng hg aa.out:ap≠ai));replace aa:=xk aa hb;clear hb ah hg;have cv:=aq.out;have cw:=aj.out;obtain ⟨bO,bP,bQ,bR⟩:=b2 aN.out));go_ret;exact ⟨rt,bl2 HB.out ac.out aP.out⟩
      ·rw [if_neg c14] at H
       have bD:decide (100<aQ)=false:=decide_eq_false c14;clear c14;have H':=am H;clear H;have au:0≤(ab:Int):=of_decide_eq_true asm;have av:ab<(ae.length:Int):=of_decide_eq_true asm;obtain ⟨a5,aF,aG,e244,ak,al,ao⟩:=nS aV.out ab au av;cases e244;replace ak:=xc HB ak;have aC:=am ao;have aD:=am al;clear ao al;replace au:=eq_true au;replace av:=eq_true av;go_wp2_with (first | ((with_reducible refine gP (f:=15) rfl ?_);refine gl 18 Tryz.func15 #[.slice aF (jr ae ab).length aG] ?_;(with_reducible refine (jh.calls _ _ (jr ae ab) aU aQ true _ ?aL ?aM A7.out).mono ?_);(case aL=>exact kc (Kd.iA aC.out HB.out));(case aM=>exact aD.out);rintro e cR ⟨rfl,hb⟩;refine ⟨_,rfl,?_⟩;replace aa:=xk aa hb;replace HB:=xb1 HB ac hb;(try clear hb)) | ((with_reducible refine iC (N:=5) rfl ?_);refine bx 5 38 #[.int .i64 0,.int .i64 0] ?_;intro ap hg cS ah hb;have aN:=am (ah);have aO:=am ((bz1 hg HB.out ac.out:w.heap.size≤ap));have aP:=aO;replace HB:=xb1 HB ac hb;have aj:=am ((nl hg aa.out:ai≠ap));have aq:=am ((ng hg aa.out:ap≠ai));replace aa:=xk aa hb;clear hb ah hg;have cx:=aq.out;have cy:=aj.out;obtain ⟨bS,bT,bU,bV⟩:=b2 aN.out));go_roundg k1
       case measure=>have:=a0.out;omega
       case rel=>exact ⟨(wrap64 (ab+1)),sm,H',⟨by have:=a0.out;omega⟩,⟨kf aa.out aj.out⟩,⟨bl2 HB.out ac.out aP.out⟩⟩
    ·replace c8:=Bool.eq_false_iff.mpr c8
     subst c8;have H1:(jc.l0 k1 ae (ae.length:Int) (wrap64 (ab+1)) aJ aK ae ag)=some r:=by rw [if_neg (show ¬ (false=true) by decide)] at H;exact H
     clear H;have H:=H1;clear H1;have H':=am H;clear H;have au:0≤(ab:Int):=of_decide_eq_true asm;have av:ab<(ae.length:Int):=of_decide_eq_true asm;obtain ⟨a5,aF,aG,e244,ak,al,ao⟩:=nS aV.out ab au av;cases e244;replace ak:=xc HB ak;have aC:=am ao;have aD:=am al;clear ao al;replace au:=eq_true au;replace av:=eq_true av;go_wp2_with (first | ((with_reducible refine gP (f:=15) rfl ?_);refine gl 18 Tryz.func15 #[.slice aF (jr ae ab).length aG] ?_;(with_reducible refine (jh.calls _ _ (jr ae ab) aU aQ false _ ?aL ?aM A7.out).mono ?_);(case aL=>exact kc (Kd.iA aC.out HB.out));(case aM=>exact aD.out);rintro e cT ⟨rfl,hb⟩;refine ⟨_,rfl,?_⟩;replace aa:=xk aa hb;replace HB:=xb1 HB ac hb;(try clear hb)) | ((with_reducible refine iC (N:=5) rfl ?_);refine bx 5 38 #[.int .i64 0,.int .i64 0] ?_;intro ap hg cU ah hb;have aN:=am (ah);have aO:=am ((bz1 hg HB.out ac.out:w.heap.size≤ap));have aP:=aO;replace HB:=xb1 HB ac hb;have aj:=am ((nl hg aa.out:ai≠ap));have aq:=am ((ng hg aa.out:ap≠ai));replace aa:=xk aa hb;clear hb ah hg;have cz:=aq.out;have cA:=aj.out;obtain ⟨bW,bX,bY,bZ⟩:=b2 aN.out));go_roundg k1
     case measure=>have:=a0.out;omega
     case rel=>exact ⟨(wrap64 (ab+1)),sm,H',⟨by have:=a0.out;omega⟩,⟨kf aa.out aj.out⟩,⟨bl2 HB.out ac.out aP.out⟩⟩
   ·rw [if_neg c4] at H
    have bB:=decide_eq_false c4;clear c4;have H':=am H;clear H;obtain ⟨bg,bh,bi,bj,bk,bm,bn,bo⟩:=b4 aa.out;go_wp2;go_loopg [36] k1 (fun kq v36 w'=>∃ (af:Int),v36=.int .i64 af∧gL (jc.l1 kq ag (ag.length:Int) af aJ aK ae ag=some r)∧gL (kq≤k1)∧gL (w'.heap[ai]? = some (.cells #[.int .i64 aJ,.int .i64 aK,(.slice aW ae.length aX),(.slice aY ag.length aZ)] 25 (0,0)))∧gL (Below w.heap.size w w'))
    case atStart=>exact ⟨(0),sm,H',⟨Nat.le_refl _⟩,⟨kp aa.out⟩,⟨bl1 HB.out ac.out⟩⟩
    case round =>
     clear H';try clear bB
     try clear bg
     try clear bh
     try clear bi
     try clear bj
     try clear bk
     try clear bm
     try clear bn
     try clear bo
     obtain ⟨af,rfl,HA,bH,aa,HB⟩:=hrel;cases gk with
     | zero=>exact absurd HA.out (by simp [jc.l1])
     | succ k2 =>
      have H:=HA.out;clear HA;simp only [jc.l1] at H;by_cases c28:af<(ag.length:Int)
      ·rw [if_pos c28] at H
       have bE:=decide_eq_true c28;clear c28;by_cases bd:0≤af
       case neg=>rw [if_neg bd] at H;exact absurd H (by simp)
       rw [if_pos bd] at H;have cB:=decide_eq_true bd;clear bd;by_cases be:af<(ag.length:Int)
       case neg=>rw [if_neg be] at H;exact absurd H (by simp)
       rw [if_pos be] at H;have cC:=decide_eq_true be;clear be;by_cases c31:((gW ag af).f0)<(-100)
       ·rw [if_pos c31] at H
        have bF:=decide_eq_true c31;clear c31;obtain rfl:=Option.some.inj H;have aH:0≤(af:Int):=of_decide_eq_true asm;have aI:af<(ag.length:Int):=of_decide_eq_true asm;obtain ⟨bf,a6,a7,e249,aw,ax,ay,az⟩:=kZ a4.out af aH aI;cases e249;replace aw:=xc HB aw;replace ax:=xc HB ax;have a1:=am az;have a2:=am ay;clear az ay;replace aH:=eq_true aH;replace aI:=eq_true aI;go_wp2_with (first | ((with_reducible refine iC (N:=8) rfl ?_);refine bx 8 50 #[.int .i64 0,.slice none 0 0] ?_;intro aB hg w32 ah hb;have aR:=am (ah);have aS:=am ((bz1 hg HB.out ac.out:w.heap.size≤aB));have aT:=aS;replace HB:=xb1 HB ac hb;have aA:=am ((nl hg aa.out:ai≠aB));have aE:=am ((ng hg aa.out:aB≠ai));replace aa:=xk aa hb;clear hb ah hg;have cD:=aE.out;have cE:=aA.out;obtain ⟨b0,b5,b6,b7⟩:=b2 aR.out));go_ret;exact ⟨rt,bl2 HB.out ac.out aT.out⟩
       ·rw [if_neg c31] at H
        have bF:=decide_eq_false c31;clear c31;by_cases a3:((gW ag af).f0)>100
        ·rw [if_pos a3] at H
         have bG:decide (100<((gW ag af).f0))=true:=decide_eq_true a3;clear a3;obtain rfl:=Option.some.inj H;have aH:0≤(af:Int):=of_decide_eq_true asm;have aI:af<(ag.length:Int):=of_decide_eq_true asm;obtain ⟨bf,a6,a7,e249,aw,ax,ay,az⟩:=kZ a4.out af aH aI;cases e249;replace aw:=xc HB aw;replace ax:=xc HB ax;have a1:=am az;have a2:=am ay;clear az ay;replace aH:=eq_true aH;replace aI:=eq_true aI;go_wp2_with (first | ((with_reducible refine iC (N:=8) rfl ?_);refine bx 8 50 #[.int .i64 0,.slice none 0 0] ?_;intro aB hg cV ah hb;have aR:=am (ah);have aS:=am ((bz1 hg HB.out ac.out:w.heap.size≤aB));have aT:=aS;replace HB:=xb1 HB ac hb;have aA:=am ((nl hg aa.out:ai≠aB));have aE:=am ((ng hg aa.out:aB≠ai));replace aa:=xk aa hb;clear hb ah hg;have cF:=aE.out;have cG:=aA.out;obtain ⟨b8,b9,ca,cb⟩:=b2 aR.out));go_ret;exact ⟨rt,bl2 HB.out ac.out aT.out⟩
        ·rw [if_neg a3] at H
         have bG:decide (100<((gW ag af).f0))=false:=decide_eq_false a3;clear a3;have H':=am H;clear H;have aH:0≤(af:Int):=of_decide_eq_true asm;have aI:af<(ag.length:Int):=of_decide_eq_true asm;obtain ⟨bf,a6,a7,e249,aw,ax,ay,az⟩:=kZ a4.out af aH aI;cases e249;replace aw:=xc HB aw;replace ax:=xc HB ax;have a1:=am az;have a2:=am ay;clear az ay;replace aH:=eq_true aH;replace aI:=eq_true aI;go_wp2_with (first | ((with_reducible refine iC (N:=8) rfl ?_);refine bx 8 50 #[.int .i64 0,.slice none 0 0] ?_;intro aB hg cW ah hb;have aR:=am (ah);have aS:=am ((bz1 hg HB.out ac.out:w.heap.size≤aB));have aT:=aS;replace HB:=xb1 HB ac hb;have aA:=am ((nl hg aa.out:ai≠aB));have aE:=am ((ng hg aa.out:aB≠ai));replace aa:=xk aa hb;clear hb ah hg;have cH:=aE.out;have cI:=aA.out;obtain ⟨cd,ce,cf,cg⟩:=b2 aR.out));go_roundg k2
         case measure=>have:=a0.out;have:=bH.out;omega
         case rel=>exact ⟨(wrap64 (af+1)),sm,H',⟨by have:=a0.out;have:=bH.out;omega⟩,⟨kf aa.out aA.out⟩,⟨bl2 HB.out ac.out aT.out⟩⟩
      ·rw [if_neg c28] at H
       have bE:=decide_eq_false c28;clear c28;obtain rfl:=Option.some.inj H;obtain ⟨ch,ci,cj,ck,cm,cn,co,cp⟩:=b4 aa.out;go_wp2;go_ret;exact ⟨rt,bl1 HB.out ac.out⟩
mutual
def j6.l0:Nat→Int→List (List (S38))→Int→Int→Int→Int→List (List (S38))→List (S50)→Option (Int)
 | 0,_,_,_,_,_,_,_,_=>none
 | k+1,x3,x9,x10,x11,x102000,x102001,x102002,x102003=>if x11<x10 then (if 0≤x11 then (if x11<(x9.length:Int) then (j6.l0 k (wrap64 (x3+((jr x9 x11).length:Int))) x9 x10 (wrap64 (x11+1)) x102000 x102001 x102002 x102003) else (none)) else (none)) else (j6.l1 k x3 x102003 (x102003.length:Int) 0)
def j6.l1:Nat→Int→List (S50)→Int→Int→Option (Int)
 | 0,_,_,_,_=>none
 | k+1,x3,x21,x22,x23=>if x23<x22 then (if 0≤x23 then (if x23<(x21.length:Int) then (j6.l1 k (wrap64 (x3+(((gW x21 x23).f1).length:Int))) x21 x22 (wrap64 (x23+1))) else (none)) else (none)) else (some x3)
end
def j6.f (k:Nat) (ab:Int) (ac:Int) (aa:List (List (S38))) (ae:List (S50)):Option (Int):=j6.l0 k 0 aa (aa.length:Int) 0 ab ac aa ae
set_option maxHeartbeats 8000000 in
set_option maxRecDepth 100000 in
theorem j6.calls (k:Nat) (ah:Int) (ai:Int) (al:Option Addr) (ao:Nat) (aa:List (List (S38))) (ap:Option Addr) (aq:Nat) (ab:List (S50)) (r:Int) (w:World) (aK:Kd.C (Kd.slice 38 k38) w al aa.length aa) (aL:aa.length≤ao) (aM:Kd.C k50 w ap ab.length ab) (aN:ab.length≤aq) (h:j6.f k ah ai aa ab=some r) :
 Calls Tryz.prog 43 #[.agg #[.int .i64 ah,.int .i64 ai,.slice al aa.length ao,.slice ap ab.length aq]] w fun e w'=>e=.returned (.int .i64 r)∧Below w.heap.size w w':=by
 have bF:=Tryz.underlying25;have bG:=Tryz.underlying50;have a6:=am aK;have bv:=am aL;clear aK aL;have a7:=am aM;have bw:=am aN;clear aM aN;have HB:=am (Below.refl w.heap.size w);have H:(j6.l0 k 0 aa (aa.length:Int) 0 ah ai aa ab)=some r:=h;clear h;have H':=am H;clear H;go_enter Tryz.func43,Tryz.ntmps43;go_wp2_with (first | ((with_reducible refine iC (N:=1) rfl ?_);refine bx 1 25 #[.int .i64 ah,.int .i64 ai,.slice al aa.length ao,.slice ap ab.length aq] ?_;intro aj hg w2 au hb;have ac:=am (au);have a8:=am ((bz hg HB.out:w.heap.size≤aj));have ag:=a8;replace HB:=xb HB hb;clear hb au hg;obtain ⟨aP,aQ,aR,aS,aT,aU,aV,aW⟩:=b4 ac.out));go_loopg [3,11] k (fun kq v3 v11 w'=>∃ (av:Int) (ae:Int),v3=.int .i64 av∧v11=.int .i64 ae∧gL (j6.l0 kq av aa (aa.length:Int) ae ah ai aa ab=some r)∧gL (kq≤k)∧gL (w'.heap[aj]? = some (.cells #[.int .i64 ah,.int .i64 ai,(.slice al aa.length ao),(.slice ap ab.length aq)] 25 (0,0)))∧gL (Below w.heap.size w w'))
 case atStart=>exact ⟨(0),(0),sm,sm,H',⟨Nat.le_refl _⟩,⟨kp ac.out⟩,⟨bl1 HB.out ag.out⟩⟩
 case round =>
  clear H';try clear aP
  try clear aQ
  try clear aR
  try clear aS
  try clear aT
  try clear aU
  try clear aV
  try clear aW
  obtain ⟨av,ae,rfl,rfl,HA,aO,ac,HB⟩:=hrel;cases gk with
  | zero=>exact absurd HA.out (by simp [j6.l0])
  | succ k1 =>
   have H:=HA.out;clear HA;simp only [j6.l0] at H;by_cases c4:ae<(aa.length:Int)
   ·rw [if_pos c4] at H
    have aX:=decide_eq_true c4;clear c4;by_cases c5:0≤ae
    case neg=>rw [if_neg c5] at H;exact absurd H (by simp)
    rw [if_pos c5] at H;have bH:=decide_eq_true c5;clear c5;by_cases c6:ae<(aa.length:Int)
    case neg=>rw [if_neg c6] at H;exact absurd H (by simp)
    rw [if_pos c6] at H;have bI:=decide_eq_true c6;clear c6;have H':=am H;clear H;have aG:0≤(ae:Int):=of_decide_eq_true asm;have aH:ae<(aa.length:Int):=of_decide_eq_true asm;obtain ⟨bA,bq,br,be,aw,ax,ay⟩:=nS a6.out ae aG aH;cases be;replace aw:=xc HB aw;have bh:=am ay;have bi:=am ax;clear ay ax;replace aG:=eq_true aG;replace aH:=eq_true aH;go_wp2;go_roundg k1
    case measure=>have:=aO.out;omega
    case rel=>exact ⟨(wrap64 (av+((jr aa ae).length:Int))),(wrap64 (ae+1)),sm,sm,H',⟨by have:=aO.out;omega⟩,⟨kp ac.out⟩,⟨bl1 HB.out ag.out⟩⟩
   ·rw [if_neg c4] at H
    have aX:=decide_eq_false c4;clear c4;have H':=am H;clear H;obtain ⟨aY,aZ,a0,a1,a2,a3,a4,a5⟩:=b4 ac.out;go_wp2;go_loopg [3,23] k1 (fun kq v3 v23 w'=>∃ (aD:Int) (af:Int),v3=.int .i64 aD∧v23=.int .i64 af∧gL (j6.l1 kq aD ab (ab.length:Int) af=some r)∧gL (kq≤k1)∧gL (w'.heap[aj]? = some (.cells #[.int .i64 ah,.int .i64 ai,(.slice al aa.length ao),(.slice ap ab.length aq)] 25 (0,0)))∧gL (Below w.heap.size w w'))
    case atStart=>exact ⟨(av),(0),sm,sm,H',⟨Nat.le_refl _⟩,⟨kp ac.out⟩,⟨bl1 HB.out ag.out⟩⟩
    case round =>
     clear H';try clear aX
     try clear aY
     try clear aZ
     try clear a0
     try clear a1
     try clear a2
     try clear a3
     try clear a4
     try clear a5
     obtain ⟨aD,af,rfl,rfl,HA,bd,ac,HB⟩:=hrel;cases gk with
     | zero=>exact absurd HA.out (by simp [j6.l1])
     | succ k2 =>
      have H:=HA.out;clear HA;simp only [j6.l1] at H;by_cases c8:af<(ab.length:Int)
      ·rw [if_pos c8] at H
       have bf:=decide_eq_true c8;clear c8;by_cases c9:0≤af
       case neg=>rw [if_neg c9] at H;exact absurd H (by simp)
       rw [if_pos c9] at H;have bJ:=decide_eq_true c9;clear c9;by_cases c10:af<(ab.length:Int)
       case neg=>rw [if_neg c10] at H;exact absurd H (by simp)
       rw [if_pos c10] at H;have bB:=decide_eq_true c10;clear c10;have H':=am H;clear H;have aI:0≤(af:Int):=of_decide_eq_true asm;have aJ:af<(ab.length:Int):=of_decide_eq_true asm;obtain ⟨bC,bs,bu,bg,az,aA,aB,aC⟩:=kZ a7.out af aI aJ;cases bg;replace az:=xc HB az;replace aA:=xc HB aA;have bj:=am aC;have bk:=am aB;clear aC aB;replace aI:=eq_true aI;replace aJ:=eq_true aJ;go_wp2_with (first | ((with_reducible refine iC (N:=7) rfl ?_);refine bx 7 50 #[.int .i64 0,.slice none 0 0] ?_;intro aE hg bK au hb;have a9:=am (au);have ba:=am ((bz1 hg HB.out ag.out:w.heap.size≤aE));have bb:=ba;replace HB:=xb1 HB ag hb;have ak:=am ((nl hg ac.out:aj≠aE));have aF:=am ((ng hg ac.out:aE≠aj));replace ac:=xk ac hb;clear hb au hg;have bD:=aF.out;have bE:=ak.out;obtain ⟨bm,bn,bo,bp⟩:=b2 a9.out));go_roundg k2
       case measure=>have:=aO.out;have:=bd.out;omega
       case rel=>exact ⟨(wrap64 (aD+(((gW ab af).f1).length:Int))),(wrap64 (af+1)),sm,sm,H',⟨by have:=aO.out;have:=bd.out;omega⟩,⟨kf ac.out ak.out⟩,⟨bl2 HB.out ag.out bb.out⟩⟩
      ·rw [if_neg c8] at H
       have bf:=decide_eq_false c8;clear c8;obtain rfl:=Option.some.inj H;go_wp2;go_ret;exact ⟨rt,bl1 HB.out ag.out⟩
def kK.f (k:Nat) (ac:Int) (ae:Int) (aa:List (List (S38))) (ab:List (S50)):Option (Bool):=if (aa.length:Int)≤12 then (if (ab.length:Int)≤8 then ((j6.f k ac ae aa ab).bind fun af=>(some (decide (af≤60)))) else (some false)) else (some false)
set_option maxHeartbeats 8000000 in
set_option maxRecDepth 100000 in
theorem kK.calls (k:Nat) (ag:Int) (ah:Int) (ak:Option Addr) (al:Nat) (aa:List (List (S38))) (ao:Option Addr) (ap:Nat) (ab:List (S50)) (r:Bool) (w:World) (au:Kd.C (Kd.slice 38 k38) w ak aa.length aa) (av:aa.length≤al) (aw:Kd.C k50 w ao ab.length ab) (ax:ab.length≤ap) (h:kK.f k ag ah aa ab=some r) :
 Calls Tryz.prog 20 #[.agg #[.int .i64 ag,.int .i64 ah,.slice ak aa.length al,.slice ao ab.length ap]] w fun e w'=>e=.returned (.bool r)∧Below w.heap.size w w':=by
 have a9:=Tryz.underlying25;have ay:=am au;have az:=am av;clear au av;have aA:=am aw;have aB:=am ax;clear aw ax;have HB:=am (Below.refl w.heap.size w);have H:(if (aa.length:Int)≤12 then (if (ab.length:Int)≤8 then ((j6.f k ag ah aa ab).bind fun aq=>(some (decide (aq≤60)))) else (some false)) else (some false))=some r:=h;clear h;by_cases c2:(aa.length:Int)≤12
 ·rw [if_pos c2] at H
  have aH:=decide_eq_true c2;have aI:decide (aa.length≤12)=true:=decide_eq_true (by omega);clear c2;by_cases c3:(ab.length:Int)≤8
  ·rw [if_pos c3] at H
   have aJ:=decide_eq_true c3;have aK:decide (ab.length≤8)=true:=decide_eq_true (by omega);clear c3;replace H:=Option.bind_eq_some_iff.mp H;obtain ⟨aq,aG,H⟩:=H;try dsimp only at H
   have A4:=am aG;clear aG;obtain rfl:=Option.some.inj H;go_enter Tryz.func20,Tryz.ntmps20;go_wp2_with (first | ((with_reducible refine iC (N:=1) rfl ?_);(try (refine kL (by rfl) ?_;dsimp only));refine bx 1 25 #[.int .i64 ag,.int .i64 ah,.slice ak aa.length al,.slice ao ab.length ap] ?_;intro ai hg w5 ae hb;have ac:=am (ae);have aj:=am ((bz hg HB.out:w.heap.size≤ai));have af:=aj;replace HB:=xb HB hb;clear hb ae hg;obtain ⟨aT,aU,aV,aW,aX,aY,aZ,a0⟩:=b4 ac.out) | (go_at_call 43;(with_reducible refine (j6.calls k ag ah _ _ aa _ _ ab aq _ ?aC ?aD ?aE ?aF A4.out).mono ?_);(case aC=>exact kc (Kd.iA ay.out HB.out));(case aD=>exact az.out);(case aE=>exact kc (Kd.iA aA.out HB.out));(case aF=>exact aB.out);rintro e w7 ⟨rfl,hb⟩;replace ac:=xk ac hb;replace HB:=xb1 HB af hb;(try clear hb)));go_ret;exact ⟨rt,bl1 HB.out af.out⟩
  ·rw [if_neg c3] at H
   have aJ:=decide_eq_false c3;have aK:decide (ab.length≤8)=false:=decide_eq_false (by omega);clear c3;obtain rfl:=Option.some.inj H;go_enter Tryz.func20,Tryz.ntmps20;go_wp2_with (first | ((with_reducible refine iC (N:=1) rfl ?_);(try (refine kL (by rfl) ?_;dsimp only));refine bx 1 25 #[.int .i64 ag,.int .i64 ah,.slice ak aa.length al,.slice ao ab.length ap] ?_;intro ai hg w8 ae hb;have ac:=am (ae);have aj:=am ((bz hg HB.out:w.heap.size≤ai));have af:=aj;replace HB:=xb HB hb;clear hb ae hg;obtain ⟨a1,a2,a3,a4,a5,a6,a7,a8⟩:=b4 ac.out));go_ret;exact ⟨rt,bl1 HB.out af.out⟩
 ·rw [if_neg c2] at H
  have aH:=decide_eq_false c2;have aI:decide (aa.length≤12)=false:=decide_eq_false (by omega);clear c2;obtain rfl:=Option.some.inj H;go_enter Tryz.func20,Tryz.ntmps20;go_wp2_with (first | ((with_reducible refine iC (N:=1) rfl ?_);(try (refine kL (by rfl) ?_;dsimp only));refine bx 1 25 #[.int .i64 ag,.int .i64 ah,.slice ak aa.length al,.slice ao ab.length ap] ?_;intro ai hg ba ae hb;have ac:=am (ae);have aj:=am ((bz hg HB.out:w.heap.size≤ai));have af:=aj;replace HB:=xb HB hb;clear hb ae hg;obtain ⟨aL,aM,aN,aO,aP,aQ,aR,aS⟩:=b4 ac.out));go_ret;exact ⟨rt,bl1 HB.out af.out⟩
def jk.f (l0:List (S38)) (l1:List (S38)):Option (Bool):=if (l0.length:Int)=0 then (some true) else (if (l1.length:Int)=0 then (some true) else (if 0≤(wrap64 ((l0.length:Int) - 1)) then (if (wrap64 ((l0.length:Int) - 1))<(l0.length:Int) then (if 0<(l1.length:Int) then (some (decide (((gN l0 (wrap64 ((l0.length:Int) - 1))).f1)<((gN l1 0).f0)))) else (none)) else (none)) else (none)))
set_option maxHeartbeats 8000000 in
set_option maxRecDepth 100000 in
theorem jk.calls (A0:Option Addr) (c0:Nat) (l0:List (S38)) (A1:Option Addr) (c1:Nat) (l1:List (S38)) (r:Bool) (w:World) (hr0:Kd.C k38 w A0 l0.length l0) (hc0:l0.length≤c0) (hr1:Kd.C k38 w A1 l1.length l1) (hc1:l1.length≤c1) (h:jk.f l0 l1=some r) :
 Calls Tryz.prog 70 #[.slice A0 l0.length c0,.slice A1 l1.length c1] w fun e w'=>e=.returned (.bool r)∧iZ w w':=by
 have av:=am hr0;have aG:=am hc0;clear hr0 hc0;have HR1:=am hr1;have aH:=am hc1;clear hr1 hc1;have H:(if (l0.length:Int)=0 then (some true) else (if (l1.length:Int)=0 then (some true) else (if 0≤(wrap64 ((l0.length:Int) - 1)) then (if (wrap64 ((l0.length:Int) - 1))<(l0.length:Int) then (if 0<(l1.length:Int) then (some (decide (((gN l0 (wrap64 ((l0.length:Int) - 1))).f1)<((gN l1 0).f0)))) else (none)) else (none)) else (none))))=some r:=h;clear h;by_cases c3:(l0.length:Int)=0
 ·rw [if_pos c3] at H
  have aj:=beq_iff_eq.mpr c3;have ak:=bne_eq_false_iff_eq.mpr c3;clear c3;obtain rfl:=Option.some.inj H;go_enter Tryz.func70,Tryz.ntmps70;go_wp2;repeat (go_quiet (fail);try go_wp2)
  go_ret
  exact ⟨by first | rfl | (simp;done) | (simp [*];done),by repeat (first | exact iZ.refl _ | apply iZ.step)⟩
 ·rw [if_neg c3] at H
  have aj:((l0.length:Int)==0)=false:=beq_eq_false_iff_ne.mpr c3;have ak:((l0.length:Int) != 0)=true:=bne_iff_ne.mpr c3;have aA:¬ (l0=[]):=fun h_=>c3 (by rw [h_];rfl);by_cases c4:(l1.length:Int)=0
  ·rw [if_pos c4] at H
   have al:=beq_iff_eq.mpr c4;have ao:=bne_eq_false_iff_eq.mpr c4;clear c4;obtain rfl:=Option.some.inj H;go_enter Tryz.func70,Tryz.ntmps70;go_wp2;repeat (go_quiet (fail);try go_wp2)
   go_ret
   exact ⟨by first | rfl | (simp;done) | (simp [*];done),by repeat (first | exact iZ.refl _ | apply iZ.step)⟩
  ·rw [if_neg c4] at H
   have al:((l1.length:Int)==0)=false:=beq_eq_false_iff_ne.mpr c4;have ao:((l1.length:Int) != 0)=true:=bne_iff_ne.mpr c4;have aB:¬ (l1=[]):=fun h_=>c4 (by rw [h_];rfl);obtain ⟨aa,ae⟩:∃ j_:Int,(wrap64 ((l0.length:Int) - 1))=j_:=⟨_,rfl⟩;replace H:(if 0≤(aa) then (if (aa)<(l0.length:Int) then (if 0<(l1.length:Int) then (some (decide (((gN l0 (aa)).f1)<((gN l1 0).f0)))) else (none)) else (none)) else (none))=some r:=by first | (rw [ae] at H;exact H) | (simp only [ae] at H ⊢;exact H)
   have aw:(IntKind.i64.wrap ((l0.length:Int) - 1))=aa:=(nA _).trans ae;by_cases c6:0≤(aa)
   case neg=>rw [if_neg c6] at H;exact absurd H (by simp)
   rw [if_pos c6] at H;have aC:=decide_eq_true c6;clear c6;by_cases c7:(aa)<(l0.length:Int)
   case neg=>rw [if_neg c7] at H;exact absurd H (by simp)
   rw [if_pos c7] at H;have aD:=decide_eq_true c7;clear c7;by_cases c8:0<(l1.length:Int)
   case neg=>rw [if_neg c8] at H;exact absurd H (by simp)
   rw [if_pos c8] at H;have aE:=decide_eq_true c8;have aF:decide (0<l1.length)=true:=decide_eq_true (by omega);clear c8;obtain rfl:=Option.some.inj H;have af:0≤((aa):Int):=of_decide_eq_true asm;have ag:(aa)<(l0.length:Int):=of_decide_eq_true asm;obtain ⟨ax,ap,aq,au⟩:=j5 av.out (aa) af ag;cases ap;replace af:=eq_true af;replace ag:=eq_true ag;have ah:0≤(0:Int):=(by omega);have ai:0<(l1.length:Int):=of_decide_eq_true asm;obtain ⟨ay,e206,ab,ac⟩:=j5 HR1.out 0 ah ai;cases e206;have az:(0<l1.length)=True:=eq_true (by omega);(try rw [show ((0:Int)).toNat=0 from rfl] at ab);(try rw [show 0*2=0 from rfl] at ab);(try rw [Addr.add_zero'] at ab);(try rw [show ((0:Int)).toNat=0 from rfl] at ac);(try rw [show 0*2=0 from rfl] at ac);(try rw [Addr.add_zero'] at ac);replace ah:=eq_true ah;replace ai:=eq_true ai;go_enter Tryz.func70,Tryz.ntmps70;go_wp2;repeat (go_quiet (fail);try go_wp2)
   go_ret
   exact ⟨by first | rfl | (simp;done) | (simp only [← ae] <;> (first | rfl | simp)) | (simp [*];done),by repeat (first | exact iZ.refl _ | apply iZ.step)⟩
def jL.j0:Nat→List (S38)→Int→Bool→List (S38)→List (S38)→Int→Int→List (List (S38))→List (S50)→Option (Bool)
 | 0,_,_,_,_,_,_,_,_,_=>none
 | k+1,x5,x9,x10,x11,x12,x208000,x208001,x208002,x208003=>if x10=true then ((kC.f k x208000 x208001 x208002 x208003 x9).bind fun aa=>(if aa.2=0 then ((jk.f x11 x5).bind fun ab=>(if ab=true then ((jk.f x5 aa.1).bind fun ac=>(if ac=true then ((jk.f x11 aa.1).bind fun t226=>(some t226)) else (some false))) else (some false))) else (some false))) else ((jk.f x11 x5).bind fun t227=>(if t227=true then ((jk.f x5 x12).bind fun t228=>(if t228=true then ((jk.f x11 x12).bind fun t229=>(some t229)) else (some false))) else (some false)))
def jL.f (k:Nat) (aa:Int) (ab:Int) (ac:List (List (S38))) (ae:List (S50)) (a1:Int):Option (Bool):=(kC.f k aa ab ac ae a1).bind fun ag=>(if ag.2=0 then ((kM.f k aa ab ac ae a1).bind fun ah=>((kF.f k aa ab ac ae a1).bind fun af=>(if ah.2=true then ((kC.f k aa ab ac ae ah.1).bind fun ai=>(if ai.2=0 then (jL.j0 k ag.1 af.1 af.2 ai.1 ([]:List (S38)) aa ab ac ae) else (some false))) else (jL.j0 k ag.1 af.1 af.2 ([]:List (S38)) ([]:List (S38)) aa ab ac ae)))) else (some false))
set_option maxHeartbeats 8000000 in
set_option maxRecDepth 100000 in
theorem jL.calls (k:Nat) (al:Int) (ao:Int) (av:Option Addr) (aw:Nat) (ah:List (List (S38))) (ax:Option Addr) (ay:Nat) (ai:List (S50)) (a1:Int) (r:Bool) (w:World) (aX:Kd.C (Kd.slice 38 k38) w av ah.length ah) (aY:ah.length≤aw) (aZ:Kd.C k50 w ax ai.length ai) (a0:ai.length≤ay) (h:jL.f k al ao ah ai a1=some r) :
 Calls Tryz.prog 46 #[.agg #[.int .i64 al,.int .i64 ao,.slice av ah.length aw,.slice ax ai.length ay],.int .i64 a1] w fun e w'=>e=.returned (.bool r)∧Below w.heap.size w w':=by
 have dK:=Tryz.underlying25;have aB:=am aX;have aC:=am aY;clear aX aY;have aD:=am aZ;have aE:=am a0;clear aZ a0;have HB:=am (Below.refl w.heap.size w);have H:((kC.f k al ao ah ai a1).bind fun aQ=>(if aQ.2=0 then ((kM.f k al ao ah ai a1).bind fun a2=>((kF.f k al ao ah ai a1).bind fun aJ=>(if a2.2=true then ((kC.f k al ao ah ai a2.1).bind fun aH=>(if aH.2=0 then (jL.j0 k aQ.1 aJ.1 aJ.2 aH.1 ([]:List (S38)) al ao ah ai) else (some false))) else (jL.j0 k aQ.1 aJ.1 aJ.2 ([]:List (S38)) ([]:List (S38)) al ao ah ai)))) else (some false)))=some r:=h;clear h;replace H:=Option.bind_eq_some_iff.mp H;obtain ⟨⟨t208,aL⟩,A30,H⟩:=H;try dsimp only at H
 have A3:=am A30;clear A30;by_cases c4:aL=0
 ·rw [if_pos c4] at H
  have br:=beq_iff_eq.mpr c4;have bs:=bne_eq_false_iff_eq.mpr c4;clear c4;replace H:=Option.bind_eq_some_iff.mp H;obtain ⟨⟨t212,t213⟩,a3,H⟩:=H;try dsimp only at H
  have A5:=am a3;clear a3;replace H:=Option.bind_eq_some_iff.mp H;obtain ⟨⟨aA,aM⟩,A60,H⟩:=H;try dsimp only at H
  have A6:=am A60;clear A60;have bu:=am H;clear H;go_enter Tryz.func46,Tryz.ntmps46
  go_upto_if 33 with (first | ((with_reducible refine iC (N:=2) rfl ?_);refine bx 2 25 #[.int .i64 al,.int .i64 ao,.slice av ah.length aw,.slice ax ai.length ay] ?_;intro aK hg w8 aN hb;have af:=am (aN);have aR:=am ((bz hg HB.out:w.heap.size≤aK));have ak:=aR;replace HB:=xb HB hb;clear hb aN hg;obtain ⟨bv,bw,bA,bB,bC,bD,bE,bF⟩:=b4 af.out) | ((with_reducible refine gP (f:=25) rfl ?_);refine gl 16 Tryz.func25 #[.agg #[.int .i64 al,.int .i64 ao,.slice av ah.length aw,.slice ax ai.length ay],.int .i64 a1] ?_;(with_reducible refine (kC.calls k al ao _ _ ah _ _ ai a1 t208 aL _ ?aa ?ab ?ac ?ae A3.out).mono ?_);(case aa=>exact kc (Kd.iA aB.out HB.out));(case ab=>exact aC.out);(case ac=>exact kc (Kd.iA aD.out HB.out));(case ae=>exact aE.out);rintro e dP ⟨aS,rfl,ho0,hb⟩;refine ⟨_,rfl,?_⟩;have au:=am (Kd.kE ho0 (iL (bl1 HB.out ak.out)));replace af:=xk af hb;replace HB:=xb1 HB ak hb;(try clear hb);(try clear ho0);obtain ⟨a9,ba,bb,bd,be,bf,bg,bh⟩:=b4 af.out) | ((with_reducible refine gP (f:=60) rfl ?_);refine gl 24 Tryz.func60 #[.agg #[.int .i64 al,.int .i64 ao,.slice av ah.length aw,.slice ax ai.length ay],.int .i64 a1] ?_;(with_reducible refine (kM.calls k al ao _ _ ah _ _ ai a1 t212 t213 _ ?aa ?ab ?ac ?ae A5.out).mono ?_);(case aa=>exact kc (Kd.iA aB.out HB.out));(case ab=>exact aC.out);(case ac=>exact kc (Kd.iA aD.out HB.out));(case ae=>exact aE.out);rintro e dQ ⟨rfl,hb⟩;refine ⟨_,rfl,?_⟩;replace au:=xr au hb;replace af:=xk af hb;replace HB:=xb1 HB ak hb;(try clear hb);obtain ⟨bi,bj,bk,bm,bn,bo,bp,bq⟩:=b4 af.out) | ((with_reducible refine gP (f:=56) rfl ?_);refine gl 30 Tryz.func56 #[.agg #[.int .i64 al,.int .i64 ao,.slice av ah.length aw,.slice ax ai.length ay],.int .i64 a1] ?_;(with_reducible refine (kF.calls k al ao _ _ ah _ _ ai a1 aA aM _ ?aa ?ab ?ac ?ae A6.out).mono ?_);(case aa=>exact kc (Kd.iA aB.out HB.out));(case ab=>exact aC.out);(case ac=>exact kc (Kd.iA aD.out HB.out));(case ae=>exact aE.out);rintro e dR ⟨rfl,hb⟩;refine ⟨_,rfl,?_⟩;replace au:=xr au hb;replace af:=xk af hb;replace HB:=xb1 HB ak hb;(try clear hb)))
  (try simp only [Act.put,List.setIfInBounds_toArray,List.set_cons_zero,List.set_cons_succ])
  go_cut [11] (fun v11 wc=>∃ (kq:Nat) (ap:List (S38)),gL (jL.j0 kq t208 aA aM ap ([]:List (S38)) al ao ah ai=some r)∧gL (kq≤k)∧gL (Kd.R k38 38 wc w.heap.size (fun k_=>some k_≠(v11:Value).ownBlock∧some k_≠((.slice none 0 0):Value).ownBlock) aS t208)∧gL (Kd.R k38 38 wc w.heap.size (fun k_=>some k_≠(aS:Value).ownBlock∧some k_≠((.slice none 0 0):Value).ownBlock) v11 ap)∧gL (Kd.R k38 38 wc w.heap.size (fun k_=>some k_≠(aS:Value).ownBlock∧some k_≠(v11:Value).ownBlock) (.slice none 0 0) ([]:List (S38)))∧gL (wc.heap[aK]? = some (.cells #[.int .i64 al,.int .i64 ao,(.slice av ah.length aw),(.slice ax ai.length ay)] 25 (0,0)))∧gL (Below w.heap.size w wc))
  case first =>
   have H:=bu.out;clear bu;by_cases c15:t213=true
   ·subst c15
    have H1:((kC.f k al ao ah ai t212).bind fun aH=>(if aH.2=0 then (jL.j0 k t208 aA aM aH.1 ([]:List (S38)) al ao ah ai) else (some false)))=some r:=by rw [if_pos rfl] at H;exact H
    clear H;have H:=H1;clear H1;replace H:=Option.bind_eq_some_iff.mp H;obtain ⟨⟨aU,aO⟩,A160,H⟩:=H;try dsimp only at H
    have bX:=am A160;clear A160;by_cases c17:aO=0
    ·rw [if_pos c17] at H
     have aI:=beq_iff_eq.mpr c17;have bU:=bne_eq_false_iff_eq.mpr c17;clear c17;(first | rw [aI] | (simp only [nA,pF];rw [aI]) | skip);have H':=am H;clear H;obtain ⟨cE,cF,cG,cH,cI,cJ,cK,cL⟩:=b4 af.out;go_wp2_with (first | ((with_reducible refine gP (f:=25) rfl ?_);refine gl 37 Tryz.func25 #[.agg #[.int .i64 al,.int .i64 ao,.slice av ah.length aw,.slice ax ai.length ay],.int .i64 t212] ?_;(with_reducible refine (kC.calls k al ao _ _ ah _ _ ai t212 aU aO _ ?aa ?ab ?ac ?ae bX.out).mono ?_);(case aa=>exact kc (Kd.iA aB.out HB.out));(case ab=>exact aC.out);(case ac=>exact kc (Kd.iA aD.out HB.out));(case ae=>exact aE.out);rintro e dS ⟨b0,rfl,ho0,hb⟩;refine ⟨_,rfl,?_⟩;have a4:=am (Kd.kE (Kd.nN ho0 (Kd.rH (kr au.out))) (iL (bl1 HB.out ak.out)));replace au:=am (Kd.lF (kr au.out) (Kd.kS ho0) hb);replace af:=xk af hb;replace HB:=xb1 HB ak hb;(try clear hb);(try clear ho0)));go_meet
     case rel=>exact ⟨_,(aU),H',⟨by first | omega | exact Nat.le_refl _⟩,⟨by (with_reducible repeat (first | apply Kd.jX | apply Kd.jY | apply Kd.jF));exact Kd.kD au.out (fun _ hk=>⟨hk.2,(by simp [Value.ownBlock])⟩)⟩,⟨by (with_reducible repeat (first | apply Kd.jX | apply Kd.jY | apply Kd.jF));exact Kd.kD a4.out (fun _ hk=>⟨hk.2,(by simp [Value.ownBlock])⟩)⟩,⟨by first | exact Kd.nM _ _ _ _ _ | exact Kd.oD _ _ _ _ _ | exact Kd.nJ _ _ _ _ _ | exact Kd.ow _ _ _ _ _ | exact Kd.oz _ _ _ _ _⟩,⟨kp af.out⟩,⟨bl1 HB.out ak.out⟩⟩
    ·rw [if_neg c17] at H
     have aI:(aO==0)=false:=beq_eq_false_iff_ne.mpr c17;have bU:(aO != 0)=true:=bne_iff_ne.mpr c17;(first | rw [aI] | (simp only [nA,pF];rw [aI]) | skip);obtain rfl:=Option.some.inj H;obtain ⟨cM,cN,cO,cP,cQ,cR,cS,cT⟩:=b4 af.out;go_wp2_with (first | ((with_reducible refine gP (f:=25) rfl ?_);refine gl 37 Tryz.func25 #[.agg #[.int .i64 al,.int .i64 ao,.slice av ah.length aw,.slice ax ai.length ay],.int .i64 t212] ?_;(with_reducible refine (kC.calls k al ao _ _ ah _ _ ai t212 aU aO _ ?aa ?ab ?ac ?ae bX.out).mono ?_);(case aa=>exact kc (Kd.iA aB.out HB.out));(case ab=>exact aC.out);(case ac=>exact kc (Kd.iA aD.out HB.out));(case ae=>exact aE.out);rintro e dT ⟨b0,rfl,ho0,hb⟩;refine ⟨_,rfl,?_⟩;have a4:=am (Kd.kE (Kd.nN ho0 (Kd.rH (kr au.out))) (iL (bl1 HB.out ak.out)));replace au:=am (Kd.lF (kr au.out) (Kd.kS ho0) hb);replace af:=xk af hb;replace HB:=xb1 HB ak hb;(try clear hb);(try clear ho0)));go_ret;exact ⟨rt,bl1 HB.out ak.out⟩
   ·replace c15:=Bool.eq_false_iff.mpr c15
    subst c15;have H1:(jL.j0 k t208 aA aM ([]:List (S38)) ([]:List (S38)) al ao ah ai)=some r:=by rw [if_neg (show ¬ (false=true) by decide)] at H;exact H
    clear H;have H:=H1;clear H1;have H':=am H;clear H;go_wp2;go_meet
    case rel=>exact ⟨_,(([]:List (S38))),H',⟨by first | omega | exact Nat.le_refl _⟩,⟨by (with_reducible repeat (first | apply Kd.jX | apply Kd.jY | apply Kd.jF));exact Kd.kD au.out (fun _ hk=>⟨(by simp [Value.ownBlock]),(by simp [Value.ownBlock])⟩)⟩,⟨by first | exact Kd.nM _ _ _ _ _ | exact Kd.oD _ _ _ _ _ | exact Kd.nJ _ _ _ _ _ | exact Kd.ow _ _ _ _ _ | exact Kd.oz _ _ _ _ _⟩,⟨by first | exact Kd.nM _ _ _ _ _ | exact Kd.oD _ _ _ _ _ | exact Kd.nJ _ _ _ _ _ | exact Kd.ow _ _ _ _ _ | exact Kd.oz _ _ _ _ _⟩,⟨kp af.out⟩,⟨bl1 HB.out ak.out⟩⟩
  case rest =>
   clear bu;try clear br
   try clear bs
   try clear a9
   try clear ba
   try clear bb
   try clear bd
   try clear bi
   try clear bj
   try clear bk
   try clear bm
   try clear bv
   try clear bw
   try clear bA
   try clear bB
   try clear be
   try clear bf
   try clear bg
   try clear bh
   try clear bn
   try clear bo
   try clear bp
   try clear bq
   try clear bC
   try clear bD
   try clear bE
   try clear bF
   obtain ⟨kq,ap,HA,dU,aj,ag,aq,af,HB⟩:=hcut;cases kq with
   | zero=>exact absurd HA.out (by simp [jL.j0])
   | succ kj6 =>
    have H:=HA.out;clear HA;simp only [jL.j0] at H;by_cases a5:aM=true
    ·subst a5
     have H1:((kC.f kj6 al ao ah ai aA).bind fun aT=>(if aT.2=0 then ((jk.f ap t208).bind fun aV=>(if aV=true then ((jk.f t208 aT.1).bind fun aP=>(if aP=true then ((jk.f ap aT.1).bind fun t226=>(some t226)) else (some false))) else (some false))) else (some false)))=some r:=by rw [if_pos rfl] at H;exact H
     clear H;have H:=H1;clear H1;replace H:=Option.bind_eq_some_iff.mp H;obtain ⟨⟨aF,aG⟩,A230,H⟩:=H;try dsimp only at H
     have a6:=am A230;clear A230;by_cases c24:aG=0
     ·rw [if_pos c24] at H
      have bV:=beq_iff_eq.mpr c24;have bW:=bne_eq_false_iff_eq.mpr c24;clear c24;replace H:=Option.bind_eq_some_iff.mp H;obtain ⟨aV,bG,H⟩:=H;try dsimp only at H
      have bH:=am bG;clear bG;by_cases a7:aV=true
      ·subst a7
       have H1:((jk.f t208 aF).bind fun aP=>(if aP=true then ((jk.f ap aF).bind fun t226=>(some t226)) else (some false)))=some r:=by rw [if_pos rfl] at H;exact H
       clear H;have H:=H1;clear H1;replace H:=Option.bind_eq_some_iff.mp H;obtain ⟨aP,bI,H⟩:=H;try dsimp only at H
       have bY:=am bI;clear bI;by_cases c28:aP=true
       ·subst c28
        have H1:((jk.f ap aF).bind fun t226=>(some t226))=some r:=by rw [if_pos rfl] at H;exact H
        clear H;have H:=H1;clear H1;replace H:=Option.bind_eq_some_iff.mp H;obtain ⟨t226,bJ,H⟩:=H;try dsimp only at H
        have dJ:=am bJ;clear bJ;obtain rfl:=Option.some.inj H;obtain ⟨cU,cV,cW,cX,cY,cZ,c0,c1⟩:=b4 af.out
        go_wp2_with (first | ((with_reducible refine gP (f:=25) rfl ?_);refine gl 46 Tryz.func25 #[.agg #[.int .i64 al,.int .i64 ao,.slice av ah.length aw,.slice ax ai.length ay],.int .i64 aA] ?_;(with_reducible refine (kC.calls kj6 al ao _ _ ah _ _ ai aA aF aG _ ?aa ?ab ?ac ?ae a6.out).mono ?_);(case aa=>exact kc (Kd.iA aB.out HB.out));(case ab=>exact aC.out);(case ac=>exact kc (Kd.iA aD.out HB.out));(case ae=>exact aE.out);rintro e dV ⟨aW,rfl,ho0,hb⟩;refine ⟨_,rfl,?_⟩;have az:=am (Kd.kE (Kd.nN (Kd.nN (Kd.nN ho0 (Kd.rH (kr aj.out))) (Kd.rH (kr ag.out))) (Kd.rH (kr aq.out))) (iL (bl1 HB.out ak.out)));replace aj:=am (Kd.lF (kr aj.out) (Kd.kS ho0) hb);replace ag:=am (Kd.lF (kr ag.out) (Kd.kS ho0) hb);replace aq:=am (Kd.lF (kr aq.out) (Kd.kS ho0) hb);replace af:=xk af hb;replace HB:=xb1 HB ak hb;(try clear hb);(try clear ho0);obtain ⟨b5,b6,b7⟩:=Kd.jT ag.out;subst b7;obtain ⟨b8,b9,ca⟩:=Kd.jT aj.out;subst ca) | ((with_reducible refine gP (f:=70) rfl ?_);refine gl 53 Tryz.func70 #[.slice b5 ap.length b6,.slice b8 t208.length b9] ?_;(with_reducible refine (jk.calls _ _ ap _ _ t208 true _ ?aa ?ab ?ac ?ae bH.out).mono ?_);(case aa=>exact kc (Kd.iG ag.out).2.2);(case ab=>exact (Kd.iG ag.out).2.1);(case ac=>exact kc (Kd.iG aj.out).2.2);(case ae=>exact (Kd.iG aj.out).2.1);rintro e w' ⟨rfl,⟨nd,rfl⟩⟩;refine ⟨_,rfl,?_⟩;obtain ⟨dL,dM,cb⟩:=Kd.jT az.out;subst cb) | (go_at_call 70;(with_reducible refine (jk.calls _ _ t208 _ _ aF true _ ?aa ?ab ?ac ?ae bY.out).mono ?_);(case aa=>exact kc (Kd.iG aj.out).2.2);(case ab=>exact (Kd.iG aj.out).2.1);(case ac=>exact kc (Kd.iG az.out).2.2);(case ae=>exact (Kd.iG az.out).2.1);rintro e w' ⟨rfl,⟨nd,rfl⟩⟩) | (go_at_call 70;(with_reducible refine (jk.calls _ _ ap _ _ aF t226 _ ?aa ?ab ?ac ?ae dJ.out).mono ?_);(case aa=>exact kc (Kd.iG ag.out).2.2);(case ab=>exact (Kd.iG ag.out).2.1);(case ac=>exact kc (Kd.iG az.out).2.2);(case ae=>exact (Kd.iG az.out).2.1);rintro e w' ⟨rfl,⟨nd,rfl⟩⟩))
        go_ret
        exact ⟨rt,bl1 HB.out ak.out⟩
       ·replace c28:=Bool.eq_false_iff.mpr c28
        subst c28;have H1:(some false)=some r:=by rw [if_neg (show ¬ (false=true) by decide)] at H;exact H
        clear H;have H:=H1;clear H1;obtain rfl:=Option.some.inj H;obtain ⟨da,db,dc,dd,de,df,dg,dh⟩:=b4 af.out
        go_wp2_with (first | ((with_reducible refine gP (f:=25) rfl ?_);refine gl 46 Tryz.func25 #[.agg #[.int .i64 al,.int .i64 ao,.slice av ah.length aw,.slice ax ai.length ay],.int .i64 aA] ?_;(with_reducible refine (kC.calls kj6 al ao _ _ ah _ _ ai aA aF aG _ ?aa ?ab ?ac ?ae a6.out).mono ?_);(case aa=>exact kc (Kd.iA aB.out HB.out));(case ab=>exact aC.out);(case ac=>exact kc (Kd.iA aD.out HB.out));(case ae=>exact aE.out);rintro e dW ⟨aW,rfl,ho0,hb⟩;refine ⟨_,rfl,?_⟩;have az:=am (Kd.kE (Kd.nN (Kd.nN (Kd.nN ho0 (Kd.rH (kr aj.out))) (Kd.rH (kr ag.out))) (Kd.rH (kr aq.out))) (iL (bl1 HB.out ak.out)));replace aj:=am (Kd.lF (kr aj.out) (Kd.kS ho0) hb);replace ag:=am (Kd.lF (kr ag.out) (Kd.kS ho0) hb);replace aq:=am (Kd.lF (kr aq.out) (Kd.kS ho0) hb);replace af:=xk af hb;replace HB:=xb1 HB ak hb;(try clear hb);(try clear ho0);obtain ⟨cd,ce,cf⟩:=Kd.jT ag.out;subst cf;obtain ⟨cg,ch,ci⟩:=Kd.jT aj.out;subst ci) | ((with_reducible refine gP (f:=70) rfl ?_);refine gl 53 Tryz.func70 #[.slice cd ap.length ce,.slice cg t208.length ch] ?_;(with_reducible refine (jk.calls _ _ ap _ _ t208 true _ ?aa ?ab ?ac ?ae bH.out).mono ?_);(case aa=>exact kc (Kd.iG ag.out).2.2);(case ab=>exact (Kd.iG ag.out).2.1);(case ac=>exact kc (Kd.iG aj.out).2.2);(case ae=>exact (Kd.iG aj.out).2.1);rintro e w' ⟨rfl,⟨nd,rfl⟩⟩;refine ⟨_,rfl,?_⟩;obtain ⟨dN,dO,cj⟩:=Kd.jT az.out;subst cj) | (go_at_call 70;(with_reducible refine (jk.calls _ _ t208 _ _ aF false _ ?aa ?ab ?ac ?ae bY.out).mono ?_);(case aa=>exact kc (Kd.iG aj.out).2.2);(case ab=>exact (Kd.iG aj.out).2.1);(case ac=>exact kc (Kd.iG az.out).2.2);(case ae=>exact (Kd.iG az.out).2.1);rintro e w' ⟨rfl,⟨nd,rfl⟩⟩))
        go_ret
        exact ⟨rt,bl1 HB.out ak.out⟩
      ·replace a7:=Bool.eq_false_iff.mpr a7
       subst a7;have H1:(some false)=some r:=by rw [if_neg (show ¬ (false=true) by decide)] at H;exact H
       clear H;have H:=H1;clear H1;obtain rfl:=Option.some.inj H;obtain ⟨di,dj,dk,dl,dm,dp,dq,dr⟩:=b4 af.out;go_wp2_with (first | ((with_reducible refine gP (f:=25) rfl ?_);refine gl 46 Tryz.func25 #[.agg #[.int .i64 al,.int .i64 ao,.slice av ah.length aw,.slice ax ai.length ay],.int .i64 aA] ?_;(with_reducible refine (kC.calls kj6 al ao _ _ ah _ _ ai aA aF aG _ ?aa ?ab ?ac ?ae a6.out).mono ?_);(case aa=>exact kc (Kd.iA aB.out HB.out));(case ab=>exact aC.out);(case ac=>exact kc (Kd.iA aD.out HB.out));(case ae=>exact aE.out);rintro e dX ⟨aW,rfl,ho0,hb⟩;refine ⟨_,rfl,?_⟩;have az:=am (Kd.kE (Kd.nN (Kd.nN (Kd.nN ho0 (Kd.rH (kr aj.out))) (Kd.rH (kr ag.out))) (Kd.rH (kr aq.out))) (iL (bl1 HB.out ak.out)));replace aj:=am (Kd.lF (kr aj.out) (Kd.kS ho0) hb);replace ag:=am (Kd.lF (kr ag.out) (Kd.kS ho0) hb);replace aq:=am (Kd.lF (kr aq.out) (Kd.kS ho0) hb);replace af:=xk af hb;replace HB:=xb1 HB ak hb;(try clear hb);(try clear ho0);obtain ⟨ck,cm,cn⟩:=Kd.jT ag.out;subst cn;obtain ⟨co,cp,cq⟩:=Kd.jT aj.out;subst cq) | ((with_reducible refine gP (f:=70) rfl ?_);refine gl 53 Tryz.func70 #[.slice ck ap.length cm,.slice co t208.length cp] ?_;(with_reducible refine (jk.calls _ _ ap _ _ t208 false _ ?aa ?ab ?ac ?ae bH.out).mono ?_);(case aa=>exact kc (Kd.iG ag.out).2.2);(case ab=>exact (Kd.iG ag.out).2.1);(case ac=>exact kc (Kd.iG aj.out).2.2);(case ae=>exact (Kd.iG aj.out).2.1);rintro e w' ⟨rfl,⟨nd,rfl⟩⟩;refine ⟨_,rfl,?_⟩));go_ret;exact ⟨rt,bl1 HB.out ak.out⟩
     ·rw [if_neg c24] at H
      have bV:(aG==0)=false:=beq_eq_false_iff_ne.mpr c24;have bW:(aG != 0)=true:=bne_iff_ne.mpr c24;obtain rfl:=Option.some.inj H;obtain ⟨dt,du,dv,dw,dx,dy,dz,dA⟩:=b4 af.out;go_wp2_with (first | ((with_reducible refine gP (f:=25) rfl ?_);refine gl 46 Tryz.func25 #[.agg #[.int .i64 al,.int .i64 ao,.slice av ah.length aw,.slice ax ai.length ay],.int .i64 aA] ?_;(with_reducible refine (kC.calls kj6 al ao _ _ ah _ _ ai aA aF aG _ ?aa ?ab ?ac ?ae a6.out).mono ?_);(case aa=>exact kc (Kd.iA aB.out HB.out));(case ab=>exact aC.out);(case ac=>exact kc (Kd.iA aD.out HB.out));(case ae=>exact aE.out);rintro e dY ⟨aW,rfl,ho0,hb⟩;refine ⟨_,rfl,?_⟩;have az:=am (Kd.kE (Kd.nN (Kd.nN (Kd.nN ho0 (Kd.rH (kr aj.out))) (Kd.rH (kr ag.out))) (Kd.rH (kr aq.out))) (iL (bl1 HB.out ak.out)));replace aj:=am (Kd.lF (kr aj.out) (Kd.kS ho0) hb);replace ag:=am (Kd.lF (kr ag.out) (Kd.kS ho0) hb);replace aq:=am (Kd.lF (kr aq.out) (Kd.kS ho0) hb);replace af:=xk af hb;replace HB:=xb1 HB ak hb;(try clear hb);(try clear ho0)));go_ret;exact ⟨rt,bl1 HB.out ak.out⟩
    ·replace a5:=Bool.eq_false_iff.mpr a5
     subst a5;have H1:((jk.f ap t208).bind fun t227=>(if t227=true then ((jk.f t208 ([]:List (S38))).bind fun t228=>(if t228=true then ((jk.f ap ([]:List (S38))).bind fun t229=>(some t229)) else (some false))) else (some false)))=some r:=by rw [if_neg (show ¬ (false=true) by decide)] at H;exact H
     clear H;have H:=H1;clear H1;replace H:=Option.bind_eq_some_iff.mp H;obtain ⟨t227,bK,H⟩:=H;try dsimp only at H
     have bL:=am bK;clear bK;by_cases a8:t227=true
     ·subst a8
      have H1:((jk.f t208 ([]:List (S38))).bind fun t228=>(if t228=true then ((jk.f ap ([]:List (S38))).bind fun t229=>(some t229)) else (some false)))=some r:=by rw [if_pos rfl] at H;exact H
      clear H;have H:=H1;clear H1;replace H:=Option.bind_eq_some_iff.mp H;obtain ⟨t228,bM,H⟩:=H;try dsimp only at H
      have bZ:=am bM;clear bM;by_cases c49:t228=true
      ·subst c49
       have H1:((jk.f ap ([]:List (S38))).bind fun t229=>(some t229))=some r:=by rw [if_pos rfl] at H;exact H
       clear H;have H:=H1;clear H1;replace H:=Option.bind_eq_some_iff.mp H;obtain ⟨t229,bN,H⟩:=H;try dsimp only at H
       have a3:=am bN;clear bN;obtain rfl:=Option.some.inj H;obtain ⟨bO,bP,cr⟩:=Kd.jT ag.out;subst cr;obtain ⟨bQ,bR,ct⟩:=Kd.jT aj.out;subst ct
       go_wp2_with (first | ((with_reducible refine gP (f:=70) rfl ?_);refine gl 53 Tryz.func70 #[.slice bO ap.length bP,.slice bQ t208.length bR] ?_;(with_reducible refine (jk.calls _ _ ap _ _ t208 true _ ?aa ?ab ?ac ?ae bL.out).mono ?_);(case aa=>exact kc (Kd.iG ag.out).2.2);(case ab=>exact (Kd.iG ag.out).2.1);(case ac=>exact kc (Kd.iG aj.out).2.2);(case ae=>exact (Kd.iG aj.out).2.1);rintro e w' ⟨rfl,⟨nd,rfl⟩⟩;refine ⟨_,rfl,?_⟩) | (go_at_call 70;refine qC (args':=#[.slice bQ t208.length bR,.slice none ([]:List (S38)).length 0]) (by first | (rw [show ([]:List (S38)).length=0 from (Kd.iG aq.out).1.symm] <;> rfl) | rfl) ?_;(with_reducible refine (jk.calls _ _ t208 _ _ ([]:List (S38)) true _ ?aa ?ab ?ac ?ae bZ.out).mono ?_);(case aa=>exact kc (Kd.iG aj.out).2.2);(case ab=>exact (Kd.iG aj.out).2.1);(case ac=>exact kc (Kd.iG aq.out).2.2);(case ae=>rw [show ([]:List (S38)).length=0 from (Kd.iG aq.out).1.symm];exact (Kd.iG aq.out).2.1);rintro e w' ⟨rfl,⟨nd,rfl⟩⟩) | (go_at_call 70;refine qC (args':=#[.slice bO ap.length bP,.slice none ([]:List (S38)).length 0]) (by first | (rw [show ([]:List (S38)).length=0 from (Kd.iG aq.out).1.symm] <;> rfl) | rfl) ?_;(with_reducible refine (jk.calls _ _ ap _ _ ([]:List (S38)) t229 _ ?aa ?ab ?ac ?ae a3.out).mono ?_);(case aa=>exact kc (Kd.iG ag.out).2.2);(case ab=>exact (Kd.iG ag.out).2.1);(case ac=>exact kc (Kd.iG aq.out).2.2);(case ae=>rw [show ([]:List (S38)).length=0 from (Kd.iG aq.out).1.symm];exact (Kd.iG aq.out).2.1);rintro e w' ⟨rfl,⟨nd,rfl⟩⟩))
       go_ret
       exact ⟨rt,bl1 HB.out ak.out⟩
      ·replace c49:=Bool.eq_false_iff.mpr c49
       subst c49;have H1:(some false)=some r:=by rw [if_neg (show ¬ (false=true) by decide)] at H;exact H
       clear H;have H:=H1;clear H1;obtain rfl:=Option.some.inj H;obtain ⟨cu,cv,cw⟩:=Kd.jT ag.out;subst cw;obtain ⟨bS,bT,cx⟩:=Kd.jT aj.out;subst cx;go_wp2_with (first | ((with_reducible refine gP (f:=70) rfl ?_);refine gl 53 Tryz.func70 #[.slice cu ap.length cv,.slice bS t208.length bT] ?_;(with_reducible refine (jk.calls _ _ ap _ _ t208 true _ ?aa ?ab ?ac ?ae bL.out).mono ?_);(case aa=>exact kc (Kd.iG ag.out).2.2);(case ab=>exact (Kd.iG ag.out).2.1);(case ac=>exact kc (Kd.iG aj.out).2.2);(case ae=>exact (Kd.iG aj.out).2.1);rintro e w' ⟨rfl,⟨nd,rfl⟩⟩;refine ⟨_,rfl,?_⟩) | (go_at_call 70;refine qC (args':=#[.slice bS t208.length bT,.slice none ([]:List (S38)).length 0]) (by first | (rw [show ([]:List (S38)).length=0 from (Kd.iG aq.out).1.symm] <;> rfl) | rfl) ?_;(with_reducible refine (jk.calls _ _ t208 _ _ ([]:List (S38)) false _ ?aa ?ab ?ac ?ae bZ.out).mono ?_);(case aa=>exact kc (Kd.iG aj.out).2.2);(case ab=>exact (Kd.iG aj.out).2.1);(case ac=>exact kc (Kd.iG aq.out).2.2);(case ae=>rw [show ([]:List (S38)).length=0 from (Kd.iG aq.out).1.symm];exact (Kd.iG aq.out).2.1);rintro e w' ⟨rfl,⟨nd,rfl⟩⟩));go_ret;exact ⟨rt,bl1 HB.out ak.out⟩
     ·replace a8:=Bool.eq_false_iff.mpr a8
      subst a8;have H1:(some false)=some r:=by rw [if_neg (show ¬ (false=true) by decide)] at H;exact H
      clear H;have H:=H1;clear H1;obtain rfl:=Option.some.inj H;obtain ⟨cy,cz,cA⟩:=Kd.jT ag.out;subst cA;obtain ⟨cB,cC,cD⟩:=Kd.jT aj.out;subst cD;go_wp2_with (first | ((with_reducible refine gP (f:=70) rfl ?_);refine gl 53 Tryz.func70 #[.slice cy ap.length cz,.slice cB t208.length cC] ?_;(with_reducible refine (jk.calls _ _ ap _ _ t208 false _ ?aa ?ab ?ac ?ae bL.out).mono ?_);(case aa=>exact kc (Kd.iG ag.out).2.2);(case ab=>exact (Kd.iG ag.out).2.1);(case ac=>exact kc (Kd.iG aj.out).2.2);(case ae=>exact (Kd.iG aj.out).2.1);rintro e w' ⟨rfl,⟨nd,rfl⟩⟩;refine ⟨_,rfl,?_⟩));go_ret;exact ⟨rt,bl1 HB.out ak.out⟩
 ·rw [if_neg c4] at H
  have br:(aL==0)=false:=beq_eq_false_iff_ne.mpr c4;have bs:(aL != 0)=true:=bne_iff_ne.mpr c4;obtain rfl:=Option.some.inj H;go_enter Tryz.func46,Tryz.ntmps46;go_wp2_with (first | ((with_reducible refine iC (N:=2) rfl ?_);refine bx 2 25 #[.int .i64 al,.int .i64 ao,.slice av ah.length aw,.slice ax ai.length ay] ?_;intro aK hg dZ aN hb;have af:=am (aN);have aR:=am ((bz hg HB.out:w.heap.size≤aK));have ak:=aR;replace HB:=xb HB hb;clear hb aN hg;obtain ⟨dB,dC,dD,dE,dF,dG,dH,dI⟩:=b4 af.out) | ((with_reducible refine gP (f:=25) rfl ?_);refine gl 16 Tryz.func25 #[.agg #[.int .i64 al,.int .i64 ao,.slice av ah.length aw,.slice ax ai.length ay],.int .i64 a1] ?_;(with_reducible refine (kC.calls k al ao _ _ ah _ _ ai a1 t208 aL _ ?aa ?ab ?ac ?ae A3.out).mono ?_);(case aa=>exact kc (Kd.iA aB.out HB.out));(case ab=>exact aC.out);(case ac=>exact kc (Kd.iA aD.out HB.out));(case ae=>exact aE.out);rintro e d0 ⟨aS,rfl,ho0,hb⟩;refine ⟨_,rfl,?_⟩;have au:=am (Kd.kE ho0 (iL (bl1 HB.out ak.out)));replace af:=xk af hb;replace HB:=xb1 HB ak hb;(try clear hb);(try clear ho0)));go_ret;exact ⟨rt,bl1 HB.out ak.out⟩
end Go.Proofs.YtmbmalkpmanaaaaGreat.P
