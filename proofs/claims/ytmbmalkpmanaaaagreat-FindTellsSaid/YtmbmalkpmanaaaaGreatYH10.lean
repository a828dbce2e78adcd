/- Lemmas for laws of chapter 7: what the functions that they reach compute. No condition of its own. -/
import Derived.Test.YtmbmalkpmanaaaaGreatYH4
import Derived.Test.YtmbmalkpmanaaaaGreatYH2
import Derived.Test.YtmbmalkpmanaaaaGreatYH8
import Derived.Test.YtmbmalkpmanaaaaGreatYH9
import Derived.WalkSpells
import Derived.WalkKit
import Derived.OwnWalk
import Derived.BigQuiet
import Derived.Laws.EntriesVeiled
import Derived.RangeFuncNested
import Derived.RangeFuncBox
import Derived.RangeFuncLeaves
import Derived.RangeFuncCalls
import Derived.Shelf.Abstract
namespace Go.Proofs.YtmbmalkpmanaaaaGreat.P
open Go.RowKit Go.Proofs.YtmbmalkpmanaaaaGreatW.iD Go.Proofs.YtmbmalkpmanaaaaGreatW.jA Go.Proofs.YtmbmalkpmanaaaaGreatW.jw
attribute [local go_sem] lS lT mG mH kU kV lU lV   -- for this text's walks alone
set_option linter.unusedVariables false
set_option linter.unusedSimpArgs false
def iJ.l0:Nat→Int→Int→Bool→List (S50)→Int→Int→Int→Option (Int × Bool)
 | 0,_,_,_,_,_,_,_=>none
 | k+1,x1,x8,x9,x25,x26,x27,x266000=>if x27<x26 then (if 0≤x27 then (if x27<(x25.length:Int) then ((jh.f ((gW x25 x27).f1)).bind fun aa=>(if aa.2.2=true then ((l7.f aa.1 aa.2.1 x1).bind fun ab=>(if ab=true then (if x9=true then (if (wrap64 ((wrap64 (((gW x25 x27).f0) - x8))*x266000))<0 then (iJ.l0 k x1 ((gW x25 x27).f0) true x25 x26 (wrap64 (x27+1)) x266000) else (iJ.l0 k x1 x8 x9 x25 x26 (wrap64 (x27+1)) x266000)) else (iJ.l0 k x1 ((gW x25 x27).f0) true x25 x26 (wrap64 (x27+1)) x266000)) else (iJ.l0 k x1 x8 x9 x25 x26 (wrap64 (x27+1)) x266000))) else (iJ.l0 k x1 x8 x9 x25 x26 (wrap64 (x27+1)) x266000))) else (none)) else (none)) else (some (x8,x9))
def iJ.f (k:Nat) (ac:Int) (ae:Int) (af:List (List (S38))) (aa:List (S50)) (a1:Int)  : Option (Int × Bool):=(je.f k ac ae af aa (mx (mn a1 1099511627777) (-1099511627777))).bind fun ab=>(iJ.l0 k (mx (mn a1 1099511627777) (-1099511627777)) ab.1 ab.2 aa (aa.length:Int) 0 (-1))
theorem iJ.kT:∀ k,(∀ y0 y1 y2 y3 y4 y5 y6,LeO (iJ.l0 k y0 y1 y2 y3 y4 y5 y6) (iJ.l0 (k+1) y0 y1 y2 y3 y4 y5 y6))
 | 0=>fun _ _ _ _ _ _ _ r h=>by simp [iJ.l0] at h
 | k+1=>by
  have aa:=iJ.kT k
  ·intro y0 y1 y2 y3 y4 y5 y6
   unfold iJ.l0;exact mo (an aa (an je.mono trivial))
theorem iJ.mono:∀ a0 a1 a2 a3 a4 k,LeO (iJ.f k a0 a1 a2 a3 a4) (iJ.f (k+1) a0 a1 a2 a3 a4):=by
 intro a0 a1 a2 a3 a4 k;have aa:=iJ.kT k;unfold iJ.f;exact mo (an aa (an je.mono trivial))
set_option maxHeartbeats 8000000 in
set_option maxRecDepth 100000 in
theorem iJ.calls (k:Nat) (aN:Int) (aO:Int) (aW:Option Addr) (aX:Nat) (aK:List (List (S38))) (bd:Option Addr) (aY:Nat) (aa:List (S50)) (a1:Int)  (r1:Int) (r2:Bool) (w:World) (bk:Kd.C (Kd.slice 38 k38) w aW aK.length aK) (bm:aK.length≤aX) (bn:Kd.C k50 w bd aa.length aa) (bo:aa.length≤aY) (h:iJ.f k aN aO aK aa a1=some (r1,r2)) :
 Calls Tryz.prog 29 #[.agg #[.int .i64 aN,.int .i64 aO,.slice aW aK.length aX,.slice bd aa.length aY],.int .i64 a1,.agg #[.int .i64 (-1),.func (.func 60) #[] #[],.func (.func 61) #[] #[],.func (.func 62) #[] #[]]] w fun e w'=>e=.returned (.tuple #[.int .i64 r1,.bool r2])∧Below w.heap.size w w':=by
 have e0:=Tryz.underlying25;have e1:=Tryz.underlying61;have e2:=Tryz.underlying50;have e3:=Tryz.underlying38;have bV:=am bk;have bW:=am bm;clear bk bm;have a9:=am bn;have bX:=am bo;clear bn bo;have HB:=am (Below.refl w.heap.size w);have H:((je.f k aN aO aK aa (mx (mn a1 1099511627777) (-1099511627777))).bind fun a8=>(iJ.l0 k (mx (mn a1 1099511627777) (-1099511627777)) a8.1 a8.2 aa (aa.length:Int) 0 (-1)))=some (r1,r2):=h;clear h;obtain ⟨bb,be⟩:∃ j_:Int,(mn a1 1099511627777)=j_:=⟨_,rfl⟩;replace H:((je.f k aN aO aK aa (mx (bb) (-1099511627777))).bind fun a8=>(iJ.l0 k (mx (bb) (-1099511627777)) a8.1 a8.2 aa (aa.length:Int) 0 (-1)))=some (r1,r2):=by first | (rw [be] at H;exact H) | (simp only [be] at H ⊢;exact H)
 (try (have dY:bb≤1099511627777:=by (rw [← be];unfold mn;(repeat' split) <;> omega)))
 (try (have dZ:bb≤64:=by omega))
 have d0:(if 1099511627777<a1 then 1099511627777 else a1)=bb:=be;obtain ⟨aQ,bf⟩:∃ j_:Int,(mx (bb) (-1099511627777))=j_:=⟨_,rfl⟩;replace H:((je.f k aN aO aK aa (aQ)).bind fun a8=>(iJ.l0 k aQ a8.1 a8.2 aa (aa.length:Int) 0 (-1)))=some (r1,r2):=by first | (rw [bf] at H;exact H) | (simp only [bf] at H ⊢;exact H)
 have d1:(if (bb)<(-1099511627777) then (-1099511627777) else (bb))=aQ:=bf;replace H:=Option.bind_eq_some_iff.mp H;obtain ⟨⟨bS,bT⟩,A60,H⟩:=H;try dsimp only at H
 have A6:=am A60;clear A60;have H':=am H;clear H;go_enter Tryz.func29,Tryz.ntmps29
 go_wp2_with (first | ((with_reducible refine iC (N:=3) rfl ?_);refine bx 3 25 #[.int .i64 aN,.int .i64 aO,.slice aW aK.length aX,.slice bd aa.length aY] ?_;intro ak hg w7 ap hb;have ae:=am (ap);have bY:=am ((bz hg HB.out:w.heap.size≤ak));have ah:=bY;replace HB:=xb HB hb;clear hb ap hg) | ((with_reducible refine iC (N:=5) rfl ?_);refine bx 5 61 #[.int .i64 (-1),.func (.func 60) #[] #[],.func (.func 61) #[] #[],.func (.func 62) #[] #[]] ?_;intro al hg w8 ap hb;have ac:=am (ap);have bZ:=am ((bz1 hg HB.out ah.out:w.heap.size≤al));have aj:=bZ;replace HB:=xb1 HB ah hb;have a4:=am ((nl hg ae.out:ak≠al));have a5:=am ((ng hg ae.out:al≠ak));replace ae:=xk ae hb;clear hb ap hg;have e4:=a4.out;have e5:=a5.out;obtain ⟨bq,br,bs,bu,bv,bw,bA,bB⟩:=b4 ae.out;obtain ⟨bC,bD,bE,bF,bG,bH,bI,bJ⟩:=b4 ac.out) | ((with_reducible refine gP (f:=55) rfl ?_);refine xw (some 21) rfl rfl Tryz.func55 (by kernel_rfl) rfl #[.agg #[.int .i64 aN,.int .i64 aO,.slice aW aK.length aX,.slice bd aa.length aY],.int .i64 aQ,.agg #[.int .i64 (-1),.func (.func 60) #[] #[],.func (.func 61) #[] #[],.func (.func 62) #[] #[]]] rfl (by (try simp only [List.map_toArray,List.map_cons,List.map_nil]);first | done | (simp only [bf];rfl) | rfl | (simp only [List.length_drop,List.length_take];rfl)) ?_;(with_reducible refine (je.calls k aN aO _ _ aK _ _ aa aQ bS bT _ ?aZ ?a0 ?b0 ?b5 A6.out).mono ?_);(case aZ=>exact kc (Kd.iA bV.out HB.out));(case a0=>exact bW.out);(case b0=>exact kc (Kd.iA a9.out HB.out));(case b5=>exact bX.out);rintro e e6 ⟨rfl,hb⟩;refine ⟨_,rfl,?_⟩;replace ae:=xk ae hb;replace ac:=xk ac hb;replace HB:=xb2 HB ah aj hb;(try clear hb);obtain ⟨bK,bL,bM,bN,bO,bP,bQ,bR⟩:=b4 ae.out))
 go_loopg [8,9,27] k (fun kq v8 v9 v27 w'=>∃ (aV:Int) (a3:Bool) (ab:Int),v8=.int .i64 aV∧v9=.bool a3∧v27=.int .i64 ab∧gL (iJ.l0 kq aQ aV a3 aa (aa.length:Int) ab (-1)=some (r1,r2))∧gL (kq≤k)∧gL (w'.heap[ak]? = some (.cells #[.int .i64 aN,.int .i64 aO,(.slice aW aK.length aX),(.slice bd aa.length aY)] 25 (0,0)))∧gL (w'.heap[al]? = some (.cells #[.int .i64 (-1),(.func (.func 60) #[] #[]),(.func (.func 61) #[] #[]),(.func (.func 62) #[] #[])] 61 (0,0)))∧gL (Below w.heap.size w w'))
 case atStart=>exact ⟨(bS),(bT),(0),sm,sm,sm,H',⟨Nat.le_refl _⟩,⟨kp ae.out⟩,⟨kp ac.out⟩,⟨bl2 HB.out ah.out aj.out⟩⟩
 case round =>
  clear H';try clear bq
  try clear br
  try clear bs
  try clear bu
  try clear bC
  try clear bD
  try clear bE
  try clear bF
  try clear bK
  try clear bL
  try clear bM
  try clear bN
  try clear bv
  try clear bw
  try clear bA
  try clear bB
  try clear bG
  try clear bH
  try clear bI
  try clear bJ
  try clear bO
  try clear bP
  try clear bQ
  try clear bR
  obtain ⟨aV,a3,ab,rfl,rfl,rfl,HA,ba,ae,ac,HB⟩:=hrel;cases gk with
  | zero=>exact absurd HA.out (by simp [iJ.l0])
  | succ k1 =>
   have H:=HA.out;clear HA;simp only [iJ.l0] at H;by_cases c14:ab<(aa.length:Int)
   ·rw [if_pos c14] at H
    have b6:=decide_eq_true c14;clear c14;by_cases c15:0≤ab
    case neg=>rw [if_neg c15] at H;exact absurd H (by simp)
    rw [if_pos c15] at H;have d2:=decide_eq_true c15;clear c15;by_cases c16:ab<(aa.length:Int)
    case neg=>rw [if_neg c16] at H;exact absurd H (by simp)
    rw [if_pos c16] at H;have d3:=decide_eq_true c16;clear c16;replace H:=Option.bind_eq_some_iff.mp H;obtain ⟨⟨aP,a2,b7⟩,A170,H⟩:=H;try dsimp only at H
    have bi:=am A170;clear A170;by_cases c18:b7=true
    ·subst c18
     have H1:((l7.f aP a2 aQ).bind fun bj=>(if bj=true then (if a3=true then (if (wrap64 ((wrap64 (((gW aa ab).f0) - aV))*(-1)))<0 then (iJ.l0 k1 aQ ((gW aa ab).f0) true aa (aa.length:Int) (wrap64 (ab+1)) (-1)) else (iJ.l0 k1 aQ aV a3 aa (aa.length:Int) (wrap64 (ab+1)) (-1))) else (iJ.l0 k1 aQ ((gW aa ab).f0) true aa (aa.length:Int) (wrap64 (ab+1)) (-1))) else (iJ.l0 k1 aQ aV a3 aa (aa.length:Int) (wrap64 (ab+1)) (-1))))=some (r1,r2):=by rw [if_pos rfl] at H;exact H
     clear H;have H:=H1;clear H1;replace H:=Option.bind_eq_some_iff.mp H;obtain ⟨bj,bU,H⟩:=H;try dsimp only at H
     have bp:=am bU;clear bU;by_cases c20:bj=true
     ·subst c20
      have H1:(if a3=true then (if (wrap64 ((wrap64 (((gW aa ab).f0) - aV))*(-1)))<0 then (iJ.l0 k1 aQ ((gW aa ab).f0) true aa (aa.length:Int) (wrap64 (ab+1)) (-1)) else (iJ.l0 k1 aQ aV a3 aa (aa.length:Int) (wrap64 (ab+1)) (-1))) else (iJ.l0 k1 aQ ((gW aa ab).f0) true aa (aa.length:Int) (wrap64 (ab+1)) (-1)))=some (r1,r2):=by rw [if_pos rfl] at H;exact H
      clear H;have H:=H1;clear H1;by_cases c21:a3=true
      ·subst c21
       have H1:(if (wrap64 ((wrap64 (((gW aa ab).f0) - aV))*(-1)))<0 then (iJ.l0 k1 aQ ((gW aa ab).f0) true aa (aa.length:Int) (wrap64 (ab+1)) (-1)) else (iJ.l0 k1 aQ aV true aa (aa.length:Int) (wrap64 (ab+1)) (-1)))=some (r1,r2):=by rw [if_pos rfl] at H;exact H
       clear H;have H:=H1;clear H1;by_cases bg:(wrap64 ((wrap64 (((gW aa ab).f0) - aV))*(-1)))<0
       ·rw [if_pos bg] at H
        have bh:=decide_eq_true bg;(try simp only [Int.mul_one,Int.mul_neg,Int.add_zero] at bh);clear bg;have H':=am H;clear H;have aL:0≤(ab:Int):=of_decide_eq_true asm;have aM:ab<(aa.length:Int):=of_decide_eq_true asm;obtain ⟨aR,ay,az,e268,aA,aB,aC,aD⟩:=kZ a9.out ab aL aM;cases e268;replace aA:=xc HB aA;replace aB:=xc HB aB;have aS:=am aD;have aT:=am aC;clear aD aC;replace aL:=eq_true aL;replace aM:=eq_true aM
        go_wp2_with (first | ((with_reducible refine iC (N:=11) rfl ?_);refine bx 11 50 #[.int .i64 0,.slice none 0 0] ?_;intro ag hg e7 ap hb;have af:=am (ap);have a6:=am ((bz2 hg HB.out ah.out aj.out:w.heap.size≤ag));have ao:=a6;replace HB:=xb2 HB ah aj hb;have aq:=am ((nl hg ae.out:ak≠ag));have aE:=am ((ng hg ae.out:ag≠ak));replace ae:=xk ae hb;have au:=am ((nl hg ac.out:al≠ag));have aF:=am ((ng hg ac.out:ag≠al));replace ac:=xk ac hb;clear hb ap hg;have d4:=aE.out;have d5:=aq.out;have d6:=aF.out;have d7:=au.out;obtain ⟨b8,b9,ca,cb⟩:=b2 af.out) | ((with_reducible refine gP (f:=15) rfl ?_);refine gl 34 Tryz.func15 #[.slice ay ((gW aa ab).f1).length az] ?_;(with_reducible refine (jh.calls _ _ ((gW aa ab).f1) aP a2 true _ ?aZ ?a0 bi.out).mono ?_);(case aZ=>exact Kd.iA aS.out (bl3 HB.out ah.out aj.out ao.out));(case a0=>exact aT.out);rintro e e8 ⟨rfl,hb⟩;refine ⟨_,rfl,?_⟩;replace ae:=am (gU (g:=ak) (o:=.cells #[.int .i64 aN,.int .i64 aO,.slice aW aK.length aX,.slice (some aR) aa.length aY] 25 (0,0)) (kf ae.out aq.out) hb);replace ac:=am (gU (g:=al) (o:=.cells #[.int .i64 (-1),.func (.func 60) #[] #[],.func (.func 61) #[] #[],.func (.func 62) #[] #[]] 61 (0,0)) (kf ac.out au.out) hb);replace af:=am (gU (g:=ag) (o:=.cells #[.int .i64 ((gW aa ab).f0),.slice ay ((gW aa ab).f1).length az] 50 (0,0)) (by (with_reducible repeat (first | refine gV ?_ _ | refine gQ ?_ | refine gM ?_ _));refine iT (cs:=#[.int .i64 ((gW aa ab).f0),.slice none 0 0]) ?_ 1 _ rfl;(with_reducible repeat (first | refine gV ?_ _ | refine gQ ?_ | refine gM ?_ _));refine iT (cs:=#[.int .i64 0,.slice none 0 0]) ?_ 0 _ rfl;(with_reducible repeat (first | refine gV ?_ _ | refine gQ ?_ | refine gM ?_ _));exact af.out) hb);replace HB:=xb3 HB ah aj ao hb;(try clear hb)) | ((with_reducible refine iC (N:=12) rfl ?_);refine bx 12 38 #[.int .i64 0,.int .i64 0] ?_;intro ai hg e9 ap hb;have aG:=am (ap);have a7:=am ((bz3 hg HB.out ah.out aj.out ao.out:w.heap.size≤ai));have aU:=a7;replace HB:=xb3 HB ah aj ao hb;have av:=am ((nl hg ae.out:ak≠ai));have aH:=am ((ng hg ae.out:ai≠ak));replace ae:=xk ae hb;have aw:=am ((nl hg ac.out:al≠ai));have aI:=am ((ng hg ac.out:ai≠al));replace ac:=xk ac hb;have ax:=am ((nl hg af.out:ag≠ai));have aJ:=am ((ng hg af.out:ai≠ag));replace af:=xk af hb;clear hb ap hg;have d8:=aH.out;have d9:=av.out;have ea:=aI.out;have eb:=aw.out;have ec:=aJ.out;have ed:=ax.out;obtain ⟨cd,ce,cf,cg⟩:=b2 aG.out;have ee:=a5.out;have ef:=a4.out;obtain ⟨ch,ci,cj,ck,cm,cn,co,cp⟩:=b4 ac.out) | (go_at_call 62;(with_reducible refine (l7.calls aP a2 aQ true _ bp.out).mono ?_);rintro e fa ⟨rfl,hb⟩;replace ae:=am (gU (g:=ak) (o:=.cells #[.int .i64 aN,.int .i64 aO,.slice aW aK.length aX,.slice (some aR) aa.length aY] 25 (0,0)) (kf ae.out av.out) hb);replace ac:=am (gU (g:=al) (o:=.cells #[.int .i64 (-1),.func (.func 60) #[] #[],.func (.func 61) #[] #[],.func (.func 62) #[] #[]] 61 (0,0)) (kf ac.out aw.out) hb);replace af:=am (gU (g:=ag) (o:=.cells #[.int .i64 ((gW aa ab).f0),.slice ay ((gW aa ab).f1).length az] 50 (0,0)) (kf af.out ax.out) hb);replace aG:=am (gU (g:=ai) (o:=.cells #[.int .i64 aP,.int .i64 a2] 38 (0,0)) (by (with_reducible repeat (first | refine gV ?_ _ | refine gQ ?_ | refine gM ?_ _));refine iT (cs:=#[.int .i64 aP,.int .i64 0]) ?_ 1 _ rfl;(with_reducible repeat (first | refine gV ?_ _ | refine gQ ?_ | refine gM ?_ _));refine iT (cs:=#[.int .i64 0,.int .i64 0]) ?_ 0 _ rfl;(with_reducible repeat (first | refine gV ?_ _ | refine gQ ?_ | refine gM ?_ _));exact aG.out) hb);replace HB:=am (kR (by repeat (first | (with_reducible first | exact HB.out | apply jm | apply jf | apply iQ | refine iK ?_ ah.out | refine iK ?_ aj.out | refine iK ?_ ao.out | refine iK ?_ aU.out) | exact HB.out)) hb);(try clear hb);obtain ⟨cq,cr,ct,cu⟩:=b2 af.out;obtain ⟨cv,cw,cx,cy,cz,cA,cB,cC⟩:=b4 ac.out))
        go_roundg k1
        case measure=>have:=ba.out;omega
        case rel=>exact ⟨((gW aa ab).f0),(true),(wrap64 (ab+1)),sm,sm,sm,H',⟨by have:=ba.out;omega⟩,⟨kp ae.out⟩,⟨kp ac.out⟩,⟨by repeat (first | (with_reducible first | exact HB.out | apply jm | apply jf | apply iQ | refine iK ?_ ah.out | refine iK ?_ aj.out | refine iK ?_ ao.out | refine iK ?_ aU.out) | exact HB.out)⟩⟩
       ·rw [if_neg bg] at H
        have bh:=decide_eq_false bg;(try simp only [Int.mul_one,Int.mul_neg,Int.add_zero] at bh);clear bg;have H':=am H;clear H;have aL:0≤(ab:Int):=of_decide_eq_true asm;have aM:ab<(aa.length:Int):=of_decide_eq_true asm;obtain ⟨aR,ay,az,e268,aA,aB,aC,aD⟩:=kZ a9.out ab aL aM;cases e268;replace aA:=xc HB aA;replace aB:=xc HB aB;have aS:=am aD;have aT:=am aC;clear aD aC;replace aL:=eq_true aL;replace aM:=eq_true aM
        go_wp2_with (first | ((with_reducible refine iC (N:=11) rfl ?_);refine bx 11 50 #[.int .i64 0,.slice none 0 0] ?_;intro ag hg fd ap hb;have af:=am (ap);have a6:=am ((bz2 hg HB.out ah.out aj.out:w.heap.size≤ag));have ao:=a6;replace HB:=xb2 HB ah aj hb;have aq:=am ((nl hg ae.out:ak≠ag));have aE:=am ((ng hg ae.out:ag≠ak));replace ae:=xk ae hb;have au:=am ((nl hg ac.out:al≠ag));have aF:=am ((ng hg ac.out:ag≠al));replace ac:=xk ac hb;clear hb ap hg;have eg:=aE.out;have eh:=aq.out;have ei:=aF.out;have ej:=au.out;obtain ⟨cD,cE,cF,cG⟩:=b2 af.out) | ((with_reducible refine gP (f:=15) rfl ?_);refine gl 34 Tryz.func15 #[.slice ay ((gW aa ab).f1).length az] ?_;(with_reducible refine (jh.calls _ _ ((gW aa ab).f1) aP a2 true _ ?aZ ?a0 bi.out).mono ?_);(case aZ=>exact Kd.iA aS.out (bl3 HB.out ah.out aj.out ao.out));(case a0=>exact aT.out);rintro e fe ⟨rfl,hb⟩;refine ⟨_,rfl,?_⟩;replace ae:=am (gU (g:=ak) (o:=.cells #[.int .i64 aN,.int .i64 aO,.slice aW aK.length aX,.slice (some aR) aa.length aY] 25 (0,0)) (kf ae.out aq.out) hb);replace ac:=am (gU (g:=al) (o:=.cells #[.int .i64 (-1),.func (.func 60) #[] #[],.func (.func 61) #[] #[],.func (.func 62) #[] #[]] 61 (0,0)) (kf ac.out au.out) hb);replace af:=am (gU (g:=ag) (o:=.cells #[.int .i64 ((gW aa ab).f0),.slice ay ((gW aa ab).f1).length az] 50 (0,0)) (by (with_reducible repeat (first | refine gV ?_ _ | refine gQ ?_ | refine gM ?_ _));refine iT (cs:=#[.int .i64 ((gW aa ab).f0),.slice none 0 0]) ?_ 1 _ rfl;(with_reducible repeat (first | refine gV ?_ _ | refine gQ ?_ | refine gM ?_ _));refine iT (cs:=#[.int .i64 0,.slice none 0 0]) ?_ 0 _ rfl;(with_reducible repeat (first | refine gV ?_ _ | refine gQ ?_ | refine gM ?_ _));exact af.out) hb);replace HB:=xb3 HB ah aj ao hb;(try clear hb)) | ((with_reducible refine iC (N:=12) rfl ?_);refine bx 12 38 #[.int .i64 0,.int .i64 0] ?_;intro ai hg ff ap hb;have aG:=am (ap);have a7:=am ((bz3 hg HB.out ah.out aj.out ao.out:w.heap.size≤ai));have aU:=a7;replace HB:=xb3 HB ah aj ao hb;have av:=am ((nl hg ae.out:ak≠ai));have aH:=am ((ng hg ae.out:ai≠ak));replace ae:=xk ae hb;have aw:=am ((nl hg ac.out:al≠ai));have aI:=am ((ng hg ac.out:ai≠al));replace ac:=xk ac hb;have ax:=am ((nl hg af.out:ag≠ai));have aJ:=am ((ng hg af.out:ai≠ag));replace af:=xk af hb;clear hb ap hg;have ek:=aH.out;have el:=av.out;have em:=aI.out;have en:=aw.out;have eo:=aJ.out;have ep:=ax.out;obtain ⟨cH,cI,cJ,cK⟩:=b2 aG.out;have eq:=a5.out;have er:=a4.out;obtain ⟨cL,cM,cN,cO,cP,cQ,cR,cS⟩:=b4 ac.out) | (go_at_call 62;(with_reducible refine (l7.calls aP a2 aQ true _ bp.out).mono ?_);rintro e fg ⟨rfl,hb⟩;replace ae:=am (gU (g:=ak) (o:=.cells #[.int .i64 aN,.int .i64 aO,.slice aW aK.length aX,.slice (some aR) aa.length aY] 25 (0,0)) (kf ae.out av.out) hb);replace ac:=am (gU (g:=al) (o:=.cells #[.int .i64 (-1),.func (.func 60) #[] #[],.func (.func 61) #[] #[],.func (.func 62) #[] #[]] 61 (0,0)) (kf ac.out aw.out) hb);replace af:=am (gU (g:=ag) (o:=.cells #[.int .i64 ((gW aa ab).f0),.slice ay ((gW aa ab).f1).length az] 50 (0,0)) (kf af.out ax.out) hb);replace aG:=am (gU (g:=ai) (o:=.cells #[.int .i64 aP,.int .i64 a2] 38 (0,0)) (by (with_reducible repeat (first | refine gV ?_ _ | refine gQ ?_ | refine gM ?_ _));refine iT (cs:=#[.int .i64 aP,.int .i64 0]) ?_ 1 _ rfl;(with_reducible repeat (first | refine gV ?_ _ | refine gQ ?_ | refine gM ?_ _));refine iT (cs:=#[.int .i64 0,.int .i64 0]) ?_ 0 _ rfl;(with_reducible repeat (first | refine gV ?_ _ | refine gQ ?_ | refine gM ?_ _));exact aG.out) hb);replace HB:=am (kR (by repeat (first | (with_reducible first | exact HB.out | apply jm | apply jf | apply iQ | refine iK ?_ ah.out | refine iK ?_ aj.out | refine iK ?_ ao.out | refine iK ?_ aU.out) | exact HB.out)) hb);(try clear hb);obtain ⟨cT,cU,cV,cW⟩:=b2 af.out;obtain ⟨cX,cY,cZ,c0,c1,da,db,dc⟩:=b4 ac.out))
        go_roundg k1
        case measure=>have:=ba.out;omega
        case rel=>exact ⟨(aV),(true),(wrap64 (ab+1)),sm,sm,sm,H',⟨by have:=ba.out;omega⟩,⟨kp ae.out⟩,⟨kp ac.out⟩,⟨by repeat (first | (with_reducible first | exact HB.out | apply jm | apply jf | apply iQ | refine iK ?_ ah.out | refine iK ?_ aj.out | refine iK ?_ ao.out | refine iK ?_ aU.out) | exact HB.out)⟩⟩
      ·replace c21:=Bool.eq_false_iff.mpr c21
       subst c21;have H1:(iJ.l0 k1 aQ ((gW aa ab).f0) true aa (aa.length:Int) (wrap64 (ab+1)) (-1))=some (r1,r2):=by rw [if_neg (show ¬ (false=true) by decide)] at H;exact H
       clear H;have H:=H1;clear H1;have H':=am H;clear H;have aL:0≤(ab:Int):=of_decide_eq_true asm;have aM:ab<(aa.length:Int):=of_decide_eq_true asm;obtain ⟨aR,ay,az,e268,aA,aB,aC,aD⟩:=kZ a9.out ab aL aM;cases e268;replace aA:=xc HB aA;replace aB:=xc HB aB;have aS:=am aD;have aT:=am aC;clear aD aC;replace aL:=eq_true aL;replace aM:=eq_true aM
       go_wp2_with (first | ((with_reducible refine iC (N:=11) rfl ?_);refine bx 11 50 #[.int .i64 0,.slice none 0 0] ?_;intro ag hg fh ap hb;have af:=am (ap);have a6:=am ((bz2 hg HB.out ah.out aj.out:w.heap.size≤ag));have ao:=a6;replace HB:=xb2 HB ah aj hb;have aq:=am ((nl hg ae.out:ak≠ag));have aE:=am ((ng hg ae.out:ag≠ak));replace ae:=xk ae hb;have au:=am ((nl hg ac.out:al≠ag));have aF:=am ((ng hg ac.out:ag≠al));replace ac:=xk ac hb;clear hb ap hg;have es:=aE.out;have et:=aq.out;have eu:=aF.out;have ev:=au.out;obtain ⟨dd,de,df,dg⟩:=b2 af.out) | ((with_reducible refine gP (f:=15) rfl ?_);refine gl 34 Tryz.func15 #[.slice ay ((gW aa ab).f1).length az] ?_;(with_reducible refine (jh.calls _ _ ((gW aa ab).f1) aP a2 true _ ?aZ ?a0 bi.out).mono ?_);(case aZ=>exact Kd.iA aS.out (bl3 HB.out ah.out aj.out ao.out));(case a0=>exact aT.out);rintro e fi ⟨rfl,hb⟩;refine ⟨_,rfl,?_⟩;replace ae:=am (gU (g:=ak) (o:=.cells #[.int .i64 aN,.int .i64 aO,.slice aW aK.length aX,.slice (some aR) aa.length aY] 25 (0,0)) (kf ae.out aq.out) hb);replace ac:=am (gU (g:=al) (o:=.cells #[.int .i64 (-1),.func (.func 60) #[] #[],.func (.func 61) #[] #[],.func (.func 62) #[] #[]] 61 (0,0)) (kf ac.out au.out) hb);replace af:=am (gU (g:=ag) (o:=.cells #[.int .i64 ((gW aa ab).f0),.slice ay ((gW aa ab).f1).length az] 50 (0,0)) (by (with_reducible repeat (first | refine gV ?_ _ | refine gQ ?_ | refine gM ?_ _));refine iT (cs:=#[.int .i64 ((gW aa ab).f0),.slice none 0 0]) ?_ 1 _ rfl;(with_reducible repeat (first | refine gV ?_ _ | refine gQ ?_ | refine gM ?_ _));refine iT (cs:=#[.int .i64 0,.slice none 0 0]) ?_ 0 _ rfl;(with_reducible repeat (first | refine gV ?_ _ | refine gQ ?_ | refine gM ?_ _));exact af.out) hb);replace HB:=xb3 HB ah aj ao hb;(try clear hb)) | ((with_reducible refine iC (N:=12) rfl ?_);refine bx 12 38 #[.int .i64 0,.int .i64 0] ?_;intro ai hg fj ap hb;have aG:=am (ap);have a7:=am ((bz3 hg HB.out ah.out aj.out ao.out:w.heap.size≤ai));have aU:=a7;replace HB:=xb3 HB ah aj ao hb;have av:=am ((nl hg ae.out:ak≠ai));have aH:=am ((ng hg ae.out:ai≠ak));replace ae:=xk ae hb;have aw:=am ((nl hg ac.out:al≠ai));have aI:=am ((ng hg ac.out:ai≠al));replace ac:=xk ac hb;have ax:=am ((nl hg af.out:ag≠ai));have aJ:=am ((ng hg af.out:ai≠ag));replace af:=xk af hb;clear hb ap hg;have ew:=aH.out;have ex:=av.out;have ey:=aI.out;have ez:=aw.out;have eA:=aJ.out;have eB:=ax.out;obtain ⟨dh,di,dj,dk⟩:=b2 aG.out;have eC:=a5.out;have eD:=a4.out;obtain ⟨dl,dm,dp,dq,dr,dt,du,dv⟩:=b4 ac.out) | (go_at_call 62;(with_reducible refine (l7.calls aP a2 aQ true _ bp.out).mono ?_);rintro e fk ⟨rfl,hb⟩;replace ae:=am (gU (g:=ak) (o:=.cells #[.int .i64 aN,.int .i64 aO,.slice aW aK.length aX,.slice (some aR) aa.length aY] 25 (0,0)) (kf ae.out av.out) hb);replace ac:=am (gU (g:=al) (o:=.cells #[.int .i64 (-1),.func (.func 60) #[] #[],.func (.func 61) #[] #[],.func (.func 62) #[] #[]] 61 (0,0)) (kf ac.out aw.out) hb);replace af:=am (gU (g:=ag) (o:=.cells #[.int .i64 ((gW aa ab).f0),.slice ay ((gW aa ab).f1).length az] 50 (0,0)) (kf af.out ax.out) hb);replace aG:=am (gU (g:=ai) (o:=.cells #[.int .i64 aP,.int .i64 a2] 38 (0,0)) (by (with_reducible repeat (first | refine gV ?_ _ | refine gQ ?_ | refine gM ?_ _));refine iT (cs:=#[.int .i64 aP,.int .i64 0]) ?_ 1 _ rfl;(with_reducible repeat (first | refine gV ?_ _ | refine gQ ?_ | refine gM ?_ _));refine iT (cs:=#[.int .i64 0,.int .i64 0]) ?_ 0 _ rfl;(with_reducible repeat (first | refine gV ?_ _ | refine gQ ?_ | refine gM ?_ _));exact aG.out) hb);replace HB:=am (kR (by repeat (first | (with_reducible first | exact HB.out | apply jm | apply jf | apply iQ | refine iK ?_ ah.out | refine iK ?_ aj.out | refine iK ?_ ao.out | refine iK ?_ aU.out) | exact HB.out)) hb);(try clear hb);obtain ⟨dw,dx,dy,dz⟩:=b2 af.out))
       go_roundg k1
       case measure=>have:=ba.out;omega
       case rel=>exact ⟨((gW aa ab).f0),(true),(wrap64 (ab+1)),sm,sm,sm,H',⟨by have:=ba.out;omega⟩,⟨kp ae.out⟩,⟨kp ac.out⟩,⟨by repeat (first | (with_reducible first | exact HB.out | apply jm | apply jf | apply iQ | refine iK ?_ ah.out | refine iK ?_ aj.out | refine iK ?_ ao.out | refine iK ?_ aU.out) | exact HB.out)⟩⟩
     ·replace c20:=Bool.eq_false_iff.mpr c20
      subst c20;have H1:(iJ.l0 k1 aQ aV a3 aa (aa.length:Int) (wrap64 (ab+1)) (-1))=some (r1,r2):=by rw [if_neg (show ¬ (false=true) by decide)] at H;exact H
      clear H;have H:=H1;clear H1;have H':=am H;clear H;have aL:0≤(ab:Int):=of_decide_eq_true asm;have aM:ab<(aa.length:Int):=of_decide_eq_true asm;obtain ⟨aR,ay,az,e268,aA,aB,aC,aD⟩:=kZ a9.out ab aL aM;cases e268;replace aA:=xc HB aA;replace aB:=xc HB aB;have aS:=am aD;have aT:=am aC;clear aD aC;replace aL:=eq_true aL;replace aM:=eq_true aM
      go_wp2_with (first | ((with_reducible refine iC (N:=11) rfl ?_);refine bx 11 50 #[.int .i64 0,.slice none 0 0] ?_;intro ag hg fl ap hb;have af:=am (ap);have a6:=am ((bz2 hg HB.out ah.out aj.out:w.heap.size≤ag));have ao:=a6;replace HB:=xb2 HB ah aj hb;have aq:=am ((nl hg ae.out:ak≠ag));have aE:=am ((ng hg ae.out:ag≠ak));replace ae:=xk ae hb;have au:=am ((nl hg ac.out:al≠ag));have aF:=am ((ng hg ac.out:ag≠al));replace ac:=xk ac hb;clear hb ap hg;have eE:=aE.out;have eF:=aq.out;have eG:=aF.out;have eH:=au.out;obtain ⟨dA,dB,dC,dD⟩:=b2 af.out) | ((with_reducible refine gP (f:=15) rfl ?_);refine gl 34 Tryz.func15 #[.slice ay ((gW aa ab).f1).length az] ?_;(with_reducible refine (jh.calls _ _ ((gW aa ab).f1) aP a2 true _ ?aZ ?a0 bi.out).mono ?_);(case aZ=>exact Kd.iA aS.out (bl3 HB.out ah.out aj.out ao.out));(case a0=>exact aT.out);rintro e fm ⟨rfl,hb⟩;refine ⟨_,rfl,?_⟩;replace ae:=am (gU (g:=ak) (o:=.cells #[.int .i64 aN,.int .i64 aO,.slice aW aK.length aX,.slice (some aR) aa.length aY] 25 (0,0)) (kf ae.out aq.out) hb);replace ac:=am (gU (g:=al) (o:=.cells #[.int .i64 (-1),.func (.func 60) #[] #[],.func (.func 61) #[] #[],.func (.func 62) #[] #[]] 61 (0,0)) (kf ac.out au.out) hb);replace af:=am (gU (g:=ag) (o:=.cells #[.int .i64 ((gW aa ab).f0),.slice ay ((gW aa ab).f1).length az] 50 (0,0)) (by (with_reducible repeat (first | refine gV ?_ _ | refine gQ ?_ | refine gM ?_ _));refine iT (cs:=#[.int .i64 ((gW aa ab).f0),.slice none 0 0]) ?_ 1 _ rfl;(with_reducible repeat (first | refine gV ?_ _ | refine gQ ?_ | refine gM ?_ _));refine iT (cs:=#[.int .i64 0,.slice none 0 0]) ?_ 0 _ rfl;(with_reducible repeat (first | refine gV ?_ _ | refine gQ ?_ | refine gM ?_ _));exact af.out) hb);replace HB:=xb3 HB ah aj ao hb;(try clear hb)) | ((with_reducible refine iC (N:=12) rfl ?_);refine bx 12 38 #[.int .i64 0,.int .i64 0] ?_;intro ai hg fo ap hb;have aG:=am (ap);have a7:=am ((bz3 hg HB.out ah.out aj.out ao.out:w.heap.size≤ai));have aU:=a7;replace HB:=xb3 HB ah aj ao hb;have av:=am ((nl hg ae.out:ak≠ai));have aH:=am ((ng hg ae.out:ai≠ak));replace ae:=xk ae hb;have aw:=am ((nl hg ac.out:al≠ai));have aI:=am ((ng hg ac.out:ai≠al));replace ac:=xk ac hb;have ax:=am ((nl hg af.out:ag≠ai));have aJ:=am ((ng hg af.out:ai≠ag));replace af:=xk af hb;clear hb ap hg;have eI:=aH.out;have eJ:=av.out;have eK:=aI.out;have eL:=aw.out;have eM:=aJ.out;have eN:=ax.out;obtain ⟨dE,dF,dG,dH⟩:=b2 aG.out;have eO:=a5.out;have eP:=a4.out;obtain ⟨dI,dJ,dK,dL,dM,dN,dO,dP⟩:=b4 ac.out) | (go_at_call 62;(with_reducible refine (l7.calls aP a2 aQ false _ bp.out).mono ?_);rintro e fq ⟨rfl,hb⟩;replace ae:=am (gU (g:=ak) (o:=.cells #[.int .i64 aN,.int .i64 aO,.slice aW aK.length aX,.slice (some aR) aa.length aY] 25 (0,0)) (kf ae.out av.out) hb);replace ac:=am (gU (g:=al) (o:=.cells #[.int .i64 (-1),.func (.func 60) #[] #[],.func (.func 61) #[] #[],.func (.func 62) #[] #[]] 61 (0,0)) (kf ac.out aw.out) hb);replace af:=am (gU (g:=ag) (o:=.cells #[.int .i64 ((gW aa ab).f0),.slice ay ((gW aa ab).f1).length az] 50 (0,0)) (kf af.out ax.out) hb);replace aG:=am (gU (g:=ai) (o:=.cells #[.int .i64 aP,.int .i64 a2] 38 (0,0)) (by (with_reducible repeat (first | refine gV ?_ _ | refine gQ ?_ | refine gM ?_ _));refine iT (cs:=#[.int .i64 aP,.int .i64 0]) ?_ 1 _ rfl;(with_reducible repeat (first | refine gV ?_ _ | refine gQ ?_ | refine gM ?_ _));refine iT (cs:=#[.int .i64 0,.int .i64 0]) ?_ 0 _ rfl;(with_reducible repeat (first | refine gV ?_ _ | refine gQ ?_ | refine gM ?_ _));exact aG.out) hb);replace HB:=am (kR (by repeat (first | (with_reducible first | exact HB.out | apply jm | apply jf | apply iQ | refine iK ?_ ah.out | refine iK ?_ aj.out | refine iK ?_ ao.out | refine iK ?_ aU.out) | exact HB.out)) hb);(try clear hb)))
      go_roundg k1
      case measure=>have:=ba.out;omega
      case rel=>exact ⟨(aV),(a3),(wrap64 (ab+1)),sm,sm,sm,H',⟨by have:=ba.out;omega⟩,⟨kp ae.out⟩,⟨kp ac.out⟩,⟨by repeat (first | (with_reducible first | exact HB.out | apply jm | apply jf | apply iQ | refine iK ?_ ah.out | refine iK ?_ aj.out | refine iK ?_ ao.out | refine iK ?_ aU.out) | exact HB.out)⟩⟩
    ·replace c18:=Bool.eq_false_iff.mpr c18
     subst c18;have H1:(iJ.l0 k1 aQ aV a3 aa (aa.length:Int) (wrap64 (ab+1)) (-1))=some (r1,r2):=by rw [if_neg (show ¬ (false=true) by decide)] at H;exact H
     clear H;have H:=H1;clear H1;have H':=am H;clear H;have aL:0≤(ab:Int):=of_decide_eq_true asm;have aM:ab<(aa.length:Int):=of_decide_eq_true asm;obtain ⟨aR,ay,az,e268,aA,aB,aC,aD⟩:=kZ a9.out ab aL aM;cases e268;replace aA:=xc HB aA;replace aB:=xc HB aB;have aS:=am aD;have aT:=am aC;clear aD aC;replace aL:=eq_true aL;replace aM:=eq_true aM
     go_wp2_with (first | ((with_reducible refine iC (N:=11) rfl ?_);refine bx 11 50 #[.int .i64 0,.slice none 0 0] ?_;intro ag hg ft ap hb;have af:=am (ap);have a6:=am ((bz2 hg HB.out ah.out aj.out:w.heap.size≤ag));have ao:=a6;replace HB:=xb2 HB ah aj hb;have aq:=am ((nl hg ae.out:ak≠ag));have aE:=am ((ng hg ae.out:ag≠ak));replace ae:=xk ae hb;have au:=am ((nl hg ac.out:al≠ag));have aF:=am ((ng hg ac.out:ag≠al));replace ac:=xk ac hb;clear hb ap hg;have eQ:=aE.out;have eR:=aq.out;have eS:=aF.out;have eT:=au.out;obtain ⟨dQ,dR,dS,dT⟩:=b2 af.out) | ((with_reducible refine gP (f:=15) rfl ?_);refine gl 34 Tryz.func15 #[.slice ay ((gW aa ab).f1).length az] ?_;(with_reducible refine (jh.calls _ _ ((gW aa ab).f1) aP a2 false _ ?aZ ?a0 bi.out).mono ?_);(case aZ=>exact Kd.iA aS.out (bl3 HB.out ah.out aj.out ao.out));(case a0=>exact aT.out);rintro e fu ⟨rfl,hb⟩;refine ⟨_,rfl,?_⟩;replace ae:=am (gU (g:=ak) (o:=.cells #[.int .i64 aN,.int .i64 aO,.slice aW aK.length aX,.slice (some aR) aa.length aY] 25 (0,0)) (kf ae.out aq.out) hb);replace ac:=am (gU (g:=al) (o:=.cells #[.int .i64 (-1),.func (.func 60) #[] #[],.func (.func 61) #[] #[],.func (.func 62) #[] #[]] 61 (0,0)) (kf ac.out au.out) hb);replace af:=am (gU (g:=ag) (o:=.cells #[.int .i64 ((gW aa ab).f0),.slice ay ((gW aa ab).f1).length az] 50 (0,0)) (by (with_reducible repeat (first | refine gV ?_ _ | refine gQ ?_ | refine gM ?_ _));refine iT (cs:=#[.int .i64 ((gW aa ab).f0),.slice none 0 0]) ?_ 1 _ rfl;(with_reducible repeat (first | refine gV ?_ _ | refine gQ ?_ | refine gM ?_ _));refine iT (cs:=#[.int .i64 0,.slice none 0 0]) ?_ 0 _ rfl;(with_reducible repeat (first | refine gV ?_ _ | refine gQ ?_ | refine gM ?_ _));exact af.out) hb);replace HB:=xb3 HB ah aj ao hb;(try clear hb)) | ((with_reducible refine iC (N:=12) rfl ?_);refine bx 12 38 #[.int .i64 0,.int .i64 0] ?_;intro ai hg fv ap hb;have aG:=am (ap);have a7:=am ((bz3 hg HB.out ah.out aj.out ao.out:w.heap.size≤ai));have aU:=a7;replace HB:=xb3 HB ah aj ao hb;have av:=am ((nl hg ae.out:ak≠ai));have aH:=am ((ng hg ae.out:ai≠ak));replace ae:=xk ae hb;have aw:=am ((nl hg ac.out:al≠ai));have aI:=am ((ng hg ac.out:ai≠al));replace ac:=xk ac hb;have ax:=am ((nl hg af.out:ag≠ai));have aJ:=am ((ng hg af.out:ai≠ag));replace af:=xk af hb;clear hb ap hg;have eU:=aH.out;have eV:=av.out;have eW:=aI.out;have eX:=aw.out;have eY:=aJ.out;have eZ:=ax.out;obtain ⟨dU,dV,dW,dX⟩:=b2 aG.out))
     go_roundg k1
     case measure=>have:=ba.out;omega
     case rel=>exact ⟨(aV),(a3),(wrap64 (ab+1)),sm,sm,sm,H',⟨by have:=ba.out;omega⟩,⟨kf ae.out av.out⟩,⟨kf ac.out aw.out⟩,⟨by repeat (first | (with_reducible first | exact HB.out | apply jm | apply jf | apply iQ | refine iK ?_ ah.out | refine iK ?_ aj.out | refine iK ?_ ao.out | refine iK ?_ aU.out) | exact HB.out)⟩⟩
   ·rw [if_neg c14] at H
    have b6:=decide_eq_false c14;clear c14;simp only [Option.some.injEq,Prod.mk.injEq] at H;obtain ⟨rfl,rfl⟩:=H;go_wp2;go_ret2;exact ⟨by first | rfl | (simp [jV,jW] <;> rfl) | (simp only [← be,← bf];first | rfl | (simp [jV,jW] <;> rfl)) | (simp [*,jV,jW] <;> rfl),bl2 HB.out ah.out aj.out⟩
def jB.f (k:Nat) (ab:Int) (ac:Int) (ae:List (List (S38))) (af:List (S50)) (a1:Int):Option (Int × Bool):=(qW.f).bind fun ag=>((iJ.f k ab ac ae af a1).bind fun aa=>(some (aa.1,aa.2)))
theorem jB.mono:∀ a0 a1 a2 a3 a4 k,LeO (jB.f k a0 a1 a2 a3 a4) (jB.f (k+1) a0 a1 a2 a3 a4):=by
 intro a0 a1 a2 a3 a4 k;unfold jB.f;exact mo (an iJ.mono trivial)
def jB.T1:Bool × List (List Nat × List Nat):=(true,[([],[]),([],[]),([],[]),([0,1,2,2],[0,1,2]),([3],[3]),([3],[3]),([4,3,0,1,2,3,4,5],[4]),([5,6,0,1,2,3,4,5,6],[5])])
def jB.B1:List Nat:=[0,0,0,7,15,15,63,127]
theorem jB.ae2:qc .any (opsOf Tryz.f12 1)=jB.T1:=by kernel_rfl
theorem jB.ads:l8 jB.T1.2 jB.B1=true:=by kernel_rfl
set_option maxHeartbeats 8000000 in
set_option maxRecDepth 100000 in
theorem jB.calls (k:Nat) (ae:Int) (af:Int) (ai:Option Addr) (aj:Nat) (ab:List (List (S38))) (ak:Option Addr) (al:Nat) (ac:List (S50)) (a1:Int) (r1:Int) (r2:Bool) (w:World) (ap:Kd.C (Kd.slice 38 k38) w ai ab.length ab) (aq:ab.length≤aj) (au:Kd.C k50 w ak ac.length ac) (av:ac.length≤al) (h:jB.f k ae af ab ac a1=some (r1,r2)) :
 Calls Tryz.prog 12 #[.agg #[.int .i64 ae,.int .i64 af,.slice ai ab.length aj,.slice ak ac.length al],.int .i64 a1] w fun e w'=>e=.returned (.tuple #[.int .i64 r1,.bool r2])∧Below w.heap.size w w':=by
 have aM:=Tryz.underlying25;have az:=am ap;have aA:=am aq;clear ap aq;have aB:=am au;have aC:=am av;clear au av;have HB:=am (Below.refl w.heap.size w);have H:((qW.f).bind fun ax=>((iJ.f k ae af ab ac a1).bind fun aw=>(some (aw.1,aw.2))))=some (r1,r2):=h;clear h;replace H:=Option.bind_eq_some_iff.mp H;obtain ⟨ax,aI,H⟩:=H;try dsimp only at H
 have A3:=am aI;clear aI;replace H:=Option.bind_eq_some_iff.mp H;obtain ⟨⟨aJ,aK⟩,A40,H⟩:=H;try dsimp only at H
 have A4:=am A40;clear A40;simp only [Option.some.injEq,Prod.mk.injEq] at H;obtain ⟨rfl,rfl⟩:=H;go_enter Tryz.func12,Tryz.ntmps12;try go_wp2_with (first | ((with_reducible refine iC (N:=2) rfl ?_);refine bx 2 25 #[.int .i64 ae,.int .i64 af,.slice ai ab.length aj,.slice ak ac.length al] ?_;intro ag hg w5 ay hb;have aa:=am (ay);have aD:=am ((bz hg HB.out:w.heap.size≤ag));have ao:=aD;replace HB:=xb HB hb;clear hb ay hg))
 replace aa:=am (gQ aa.out);replace HB:=am (iQ HB.out);refine lu (n:=8) (S:=fun w'=>w'.cell? ⟨ag,0,none⟩=some (.int .i64 ae)∧w'.cell? ⟨ag,1,none⟩=some (.int .i64 af)∧w'.cell? ⟨ag,2,none⟩=some (.slice ai ab.length aj)∧w'.cell? ⟨ag,3,none⟩=some (.slice ak ac.length al)) (ds:=[]) (rs false [8]) (by kernel_rfl) rfl rfl ⟨bc aa.out 0,bc aa.out 1,bc aa.out 2,bc aa.out 3⟩ (fun hHeld => ?_);refine jK jB.ae2 jB.ads (fun ah aL => ?_);generalize w5.drew=w6 at aa HB hHeld ⊢;refine px 1 7 (rs false [1,1,6]) ah.out ?_;refine tx 0 6 (rs true [2,6]) ah.out aL.out hHeld ?_;refine ny (i:=2) (N:=some 8) (rs true [3,5]) rfl rfl (jM ah.out (by kernel_rfl)) (by decide) (fun K hK => ?_);refine lC Tryz.func31 (by kernel_rfl) rfl #[] (by rfl) rfl rfl ar ?_;with_reducible refine (qW.calls  ax _ A3.out).mono ?_
 rintro e w7 ⟨rfl,hb⟩;refine ⟨_,rfl,?_⟩;replace aa:=xk aa hb;replace HB:=xb1 HB ao hb;(try clear hb);refine hK.out _ _ ⟨bc aa.out 0,bc aa.out 1,bc aa.out 2,bc aa.out 3⟩ (fun hHeld => ?_);clear hK K;refine nx 8 ?_;refine ny (i:=3) (N:=some 9) (rs true [4,4]) rfl rfl (jM ah.out (by kernel_rfl)) (by decide) (fun K hK => ?_);refine lC Tryz.func29 (by kernel_rfl) rfl #[.agg #[.int .i64 ae,.int .i64 af,.slice ai ab.length aj,.slice ak ac.length al],.int .i64 a1,.agg #[.int .i64 (-1),.func (.func 60) #[] #[],.func (.func 61) #[] #[],.func (.func 62) #[] #[]]] (by rfl) rfl rfl ar ?_;with_reducible refine (iJ.calls k ae af _ _ ab _ _ ac a1 aJ aK _ ?aE ?aF ?aG ?aH A4.out).mono ?_
 (case aE=>exact kc (Kd.iA az.out HB.out))
 (case aF=>exact aA.out)
 (case aG=>exact kc (Kd.iA aB.out HB.out))
 (case aH=>exact aC.out)
 rintro e w8 ⟨rfl,hb⟩;refine ⟨_,rfl,?_⟩;replace aa:=xk aa hb;replace HB:=xb1 HB ao hb;(try clear hb);refine hK.out _ _ ⟨bc aa.out 0,bc aa.out 1,bc aa.out 2,bc aa.out 3⟩ (fun hHeld => ?_);clear hK K;refine nx 9 ?_;refine px 4 10 (rs true [5,3]) ah.out ?_;refine px 5 11 (rs true [6,2]) ah.out ?_;refine px 6 4 (rs true [7,1]) ah.out ?_;refine px 7 5 (rs true [8]) ah.out ?_;refine mU (kI ah.out (by kernel_rfl)) ?_;try go_wp2
 go_ret2
 exact ⟨rt,bl1 HB.out ao.out⟩
end Go.Proofs.YtmbmalkpmanaaaaGreat.P
namespace Go.Proofs.YtmbmalkpmanaaaaGreat.P
set_option linter.unusedVariables false
set_option linter.unusedSimpArgs false
open Go.RowKit Go.Proofs.YtmbmalkpmanaaaaGreatW.iD Go.Proofs.YtmbmalkpmanaaaaGreatW.jA
def IsC (W:World) (g1 g2:Nat) (want:Int) (ok:Bool):Prop:=W.heap[g1]? = some (.cells #[.int .i64 want] 3 (0,0))∧W.heap[g2]? = some (.cells #[.bool ok] 4 (0,0))
theorem IsC.below {W W':World} {g1 g2:Nat} {want:Int} {ok:Bool} (h:IsC W g1 g2 want ok) (hb:Below W.heap.size W W'):IsC W' g1 g2 want ok:=⟨gU h.1 hb,gU h.2 hb⟩
def iE.f (want:Int) (ok:Bool):Option Int:=some 0
theorem iE.calls (want:Int) (ok:Bool) (r:Int) (w:World) (h:iE.f want ok=some r):Calls Tryz.prog 23 #[.int .i64 want,.bool ok] w fun e w' =>
    ∃ g1 g2,e=.returned (.func (.func 47) #[] #[.pointer (some ⟨g1,0,none⟩),.pointer (some ⟨g2,0,none⟩)])∧IsC w' g1 g2 want ok∧Below w.heap.size w w':=by
  go_enter Tryz.func23,Tryz.ntmps23
  go_wp2
  go_ret
  refine ⟨w.heap.size,w.heap.size+1,rfl,⟨gM (nu w _) _,?_⟩,((Below.refl _ _).alloc (Nat.le_refl _) _).alloc (by simp) _⟩;have:=nu (w.alloc (.cells #[.int .i64 want] 3)) (.cells #[.bool ok] 4);simpa using this
def iw.f (want:Int) (ok:Bool) (i:Int) (found:Bool):Option Bool:=some (decide (i=want)&&(found==ok))
theorem iw.calls (want:Int) (ok:Bool) (i:Int) (found:Bool) (r:Bool) (w:World) (h:iw.f want ok i found=some r) (g1 g2:Nat) (hI:IsC w g1 g2 want ok):Calls Tryz.prog 47 #[.int .i64 i,.bool found,.pointer (some ⟨g1,0,none⟩),.pointer (some ⟨g2,0,none⟩)] w fun e w' =>
    e=.returned (.bool r)∧Below w.heap.size w w':=by
  have h1:=(iY hI.1 0).trans rfl;have h2:=(iY hI.2 0).trans rfl;clear hI;cases h;by_cases e:i=want
  · subst e
    have e1:(i==i)=true:=by simp
    cases found <;> cases ok
    all_goals
      go_enter Tryz.func47,Tryz.ntmps47
      go_wp2
      go_ret
      exact ⟨by simp,Below.refl _ _⟩
  · have e1:(i==want)=false:=by simpa using e
    have e2:decide (i=want)=false:=by simpa using e
    have E:=gL.mk e2;clear e e2;go_enter Tryz.func47,Tryz.ntmps47;go_wp2;go_ret;exact ⟨by rw [E.out];rfl,Below.refl _ _⟩
end Go.Proofs.YtmbmalkpmanaaaaGreat.P
namespace Go.Proofs.YtmbmalkpmanaaaaGreat.aaZ
set_option linter.unusedVariables false
set_option linter.unusedSimpArgs false
open Go Go.RowKit
variable {F:Fence} {n:Nat} {P:Program}
def xO (B:Nat) (Pv:Nat→Prop) (J:World→Prop):Prop :=
  ∀ W W' row,J W→W.grownBy W' row→(∀ r,row=some r→(B≤r∧∃ o:Obj,W.heap[r]? = some o∧o.isWalk=true)∨(Pv r∧∃ o:Obj,W.heap[r]? = some o∧o.isCells=true))→J W'
theorem rP {W W':World} (h:Below W.heap.size W W'):W.grownBy W' none:=⟨h.os,h.tape,h.output,h.size,fun k hk _=>h.block k hk⟩
theorem xO.below {B:Nat} {Pv:Nat→Prop} {J:World→Prop} (h:xO B Pv J) {W W':World} (hj:J W) (hb:Below W.heap.size W W'):J W':=h W W' none hj (rP hb) (fun r e=>by cases e)
def afq {β:Type} (F:Fence) (n:Nat) (P:Program) (g:Nat) (lb:Array Value) (Enc:β→Array Value→World→Prop) (Kp:World→World→Prop) (Pv:Nat→Prop) (xs:List β) (w:World):Prop :=
  ∀ (l:Nat) (J:List β→World→Prop) (Jx:World→Prop) (W:World),Below w.heap.size w W→(∀ s,xO W.heap.size Pv (J s))→xO W.heap.size Pv Jx →
    (∀ pre b r args W1,xs=pre++b :: r→J pre W1→Enc b args W1→YieldAt F (n - 1) P l args W1 fun e W' =>
      (e=.returned (.bool true)∧J (pre++[b]) W'∧Kp W1 W')∨(e=.returned (.bool false)∧Jx W')) →
    J [] W →
    CallsIn F n P g (#[.func (.yield l) #[] #[]]++lb) W fun e W'=>(∃ v,e=.returned v)∧(J xs W'∨Jx W')
def Mine (B:Nat) (Pv:Nat→Prop) (I:World→Prop):Prop :=
  ∀ W W' row,I W→W.grownBy W' row→(∀ r,row=some r→(B≤r∧∃ o:Obj,W.heap[r]? = some o∧o.isCells=false)∨Pv r)→I W'
theorem Mine.putObj {B:Nat} {Pv:Nat→Prop} {I:World→Prop} (h:Mine B Pv I) {W:World} {l:Nat} {o:Obj} (o':Obj) (hs:I W) (hB:B≤l) (hl:W.heap[l]? = some o) (ho:o.isCells=false):I (W.putObj l o') :=
  h W _ (some l) hs (grownBy_putObj' W l o') (fun r e=>by cases e;exact .inl ⟨hB,o,hl,ho⟩)
theorem Mine.alloc {B:Nat} {Pv:Nat→Prop} {I:World→Prop} (h:Mine B Pv I) {W:World} (o:Obj) (hs:I W):I (W.alloc o) :=
  h W _ none hs (World.grownBy_alloc W o none) (fun r e=>by cases e)
theorem Mine.still {B B':Nat} {Pv:Nat→Prop} {I:World→Prop} (h:Mine B Pv I) (hB:B≤B'):xO B' Pv I:=fun W W' row hs hg hr =>
  h W W' row hs hg (fun r e=>by
    rcases hr r e with ⟨a,o,ho,hw⟩ | ⟨hp,_⟩
    · exact .inl ⟨by omega,o,ho,Obj.not_cells_of_walk hw⟩
    · exact .inr hp)
def aad {β:Type} (B:Nat) (Kp:World→World→Prop) (I:List β→World→Prop) (Ix:Code→World→Prop) (xs:List β) (W:World):Exit→Act→World→Prop
  | .normal,_,W'=>KeepsFrom B W W'∧Kp W W'∧I xs W'
  | .ret,_,W'=>KeepsFrom B W W'∧Ix .ret W'
  | .exit id,_,W'=>KeepsFrom B W W'∧Ix (.exit id) W'
  | .goto t,_,W'=>KeepsFrom B W W'∧Ix (.goto t) W'
  | _,_,_=>False
theorem yJ {β:Type} {g:Operand} {ps:Array Tmp} {assign body:Code} {Q:Exit→Act→World→Prop} {a:Act} {w:World}
    (hro:F.round=none) (h1:1≤n) {gf:Nat} {lb:Array Value} (hg:a.eval g=.func (.func gf) #[] lb) (hFg:F.fn gf) (eg:∀ args w,(callFunc gf args).run P w=.ok (.enter gf args) w)
    {Enc:β→Array Value→World→Prop} {Kp:World→World→Prop} {Pv:Nat→Prop} {xs:List β} {w0:World} (hseq:afq F (n - 1) P gf lb Enc Kp Pv xs w0)
    (hKt:∀ {A B C:World},Kp A B→Kp B C→Kp A C) (hKb:∀ (W:World) (l:Nat) (o o':Obj),w.heap.size≤l→W.heap[l]? = some o→o.isCells=false→o.isWalk=false→Kp W (W.putObj l o')) (hb0:Below w0.heap.size w0 w) (hps:∀ b args W,Enc b args W→args.size=ps.size)
    (I:List β→World→Prop) (Ix:Code→World→Prop) (hI:∀ s,Mine w.heap.size Pv (I s)) (hIx:∀ c,Mine w.heap.size Pv (Ix c)) (h0:I [] w) (Ax:List β→β→Act→World→Prop) (hAx:∀ pre b a',Mine w.heap.size Pv (Ax pre b a'))
    (hassign:∀ (l:Nat) (pre:List β) (b:β) (args:Array Value) (W:World) (K:Act→World→Prop),I pre W→Enc b args W→(∀ a' W',KeepsFrom w.heap.size W W'→Kp W W'→Ax pre b a' W'→K a' W') →
      assign.wpIn (F.inRound l) (n - 1 - 1) P (Exit.then K (fun _ _ _=>False)) { tmps:=(ps.zip args).foldl (fun t (p,v)=>t.setIfInBounds p v) a.tmps,defers:=[] } W)
    (hbody:∀ (l:Nat) (pre:List β) (b:β) (r:List β) (a':Act) (W:World),xs=pre++b :: r→Ax pre b a' W→body.wpIn (F.inRound l) (n - 1 - 1) P (aad w.heap.size Kp I Ix (pre++[b]) W) a' W)
    (hdone:∀ (D:Nat) (W:World),w.heap.size≤D→I xs W→W.heap[D]? = some (.deferred (some []))→Q .normal { a with defers:={ target:=.collected D,args:=#[] } :: a.defers } W)
    (hstop:∀ (D:Nat) (c:Code) (W:World),w.heap.size≤D→Ix c W→W.heap[D]? = some (.deferred (some []))→c.wpIn F n P Q { a with defers:={ target:=.collected D,args:=#[] } :: a.defers } W) :
    (Code.rangeFunc g ps assign body).wpIn F n P Q a w:=by
  refine wpIn_rangeFunc ?_;intro fn hfn;rw [hro];obtain ⟨rec,hrec⟩:∃ rec:LoopState→Option Code→Loop,rec=fun st pe=>{ state:=st,pending:=pe,fn,tmps:=a.tmps,params:=ps,assign,body,defers:=w.heap.size }:=⟨_,rfl⟩;obtain ⟨W1,hW1⟩:∃ W1,(w.alloc (.deferred (some []))).alloc (.loop (rec .ready none))=W1:=⟨_,rfl⟩;have hL1:W1.heap[w.heap.size+1]? = some (.loop (rec .ready none)):=by
    rw [← hW1];have:=World.alloc_heap_new (w.alloc (.deferred (some []))) (.loop (rec .ready none));rwa [World.size_alloc] at this
  have hK1:W1.heap[w.heap.size]? = some (.deferred (some [])):=by
    rw [← hW1];exact (Below.heap_alloc _ _ _ (by simp)).trans (World.alloc_heap_new w _)
  have hI1:I [] W1:=by rw [← hW1];exact (hI _).alloc _ ((hI _).alloc _ h0)
  have hb1:Below w0.heap.size w0 W1:=by
    rw [← hW1];exact hb0.trans ((((Below.refl _ w).alloc (Nat.le_refl _) _).alloc (by simp) _).mono hb0.size)
  refine ⟨w.heap.size+1,[{ target:=.collected w.heap.size,args:=#[] }],W1,{ target:=.fn (.func gf) lb,args:=#[.func (.yield (w.heap.size+1)) #[] #[]] },W1,gf,
    #[.func (.yield (w.heap.size+1)) #[] #[]]++lb,W1,?_,?_,?_,?_,fun _=>h1,?_⟩
  · rw [← hW1,hrec];exact run_enterLoop_outer _ _ _ _ _
  · simp only [resolve,hg]
    simp [go_sem]
  · intro f' hf';simp [Target.leads] at hf';subst hf';exact hFg
  · simp [invoke,go_sem,eg]
  · -- THE ITERATOR's CONTRACT,AT THE CALLER's INVARIANT WITH THE TWO FACTS OF BOOK-KEEPING BESIDE IT
    have hdl:∀ {A B:World} {row:Option Nat} {k:Nat} {o:Obj},A.grownBy B row→(∀ r,row=some r→(W1.heap.size≤r∧∃ o:Obj,A.heap[r]? = some o∧o.isWalk=true)∨(Pv r∧∃ o:Obj,A.heap[r]? = some o∧o.isCells=true))→A.heap[k]? = some o→o.isCells=false→o.isWalk=false→B.heap[k]? = some o:=by
      intro A B row k o hg' hr hk ho hw;refine (hg'.block k (Array.getElem?_eq_some_iff.1 hk).1 (fun e => ?_)).trans hk;rcases hr k e.symm with ⟨_,q,hq,hc⟩ | ⟨_,q,hq,hc⟩
      · rw [hk] at hq;cases hq;rw [hw] at hc;cases hc
      · rw [hk] at hq;cases hq;rw [ho] at hc;cases hc
    have hsz1:w.heap.size≤W1.heap.size:=by rw [← hW1];simp;omega
    refine (hseq (w.heap.size+1)
      (fun pre W=>I pre W∧W.heap[w.heap.size+1]? = some (.loop (rec .ready none))∧W.heap[w.heap.size]? = some (.deferred (some [])))
      (fun W=>∃ c,Ix c W∧W.heap[w.heap.size+1]? = some (.loop (rec .done (some c)))∧W.heap[w.heap.size]? = some (.deferred (some [])))
      W1 hb1
      (fun s A B row hs hg' hr=>⟨(hI s).still hsz1 A B row hs.1 hg' hr,hdl hg' hr hs.2.1 rfl rfl,hdl hg' hr hs.2.2 rfl rfl⟩)
      (fun A B row hs hg' hr=>by
        obtain ⟨c,hc,hl,hk⟩:=hs;exact ⟨c,(hIx c).still hsz1 A B row hc hg' hr,hdl hg' hr hl rfl rfl,hdl hg' hr hk rfl rfl⟩)
      ?_ ⟨hI1,hL1,hK1⟩).mono ?_
    · -- ONE ROUND
      rintro pre x r args W hxs ⟨hi,hl,hk⟩ henc;have hlt:w.heap.size+1<W.heap.size:=(Array.getElem?_eq_some_iff.1 hl).1;have hy:=run_yield (P:=P) (args:=args) hl (by rw [hrec];exact hps _ _ _ henc);rw [hrec] at hy;refine ⟨fn,_,assign,body,hy,roundIn_of_wpIn hfn (hassign _ pre x args W _ hi henc ?_)⟩;clear hy;intro a' Wa hkfa hkpa hax;replace hl:=hkfa.same _ _ (by omega) hl rfl;replace hk:=hkfa.same _ _ (Nat.le_refl _) hk rfl;replace hlt:w.heap.size+1<Wa.heap.size:=(Array.getElem?_eq_some_iff.1 hl).1;clear hi henc;revert hkpa hkfa;generalize W=Wb;intro hkfa hkpa;obtain ⟨W,rfl⟩:∃ W,W=Wa:=⟨_,rfl⟩;refine ⟨_,run_beginRound hl (by rw [hrec]),?_⟩;have hl2:(W.putObj (w.heap.size+1) (.loop { rec .ready none with state:=.busy })).heap[w.heap.size+1]? = some (.loop { rec .ready none with state:=.busy }):=World.putObj_heap_same hlt;have hk2:(W.putObj (w.heap.size+1) (.loop { rec .ready none with state:=.busy })).heap[w.heap.size]? = some (.deferred (some [])):=(World.putObj_heap_other (by omega)).trans hk;have hw2:Kp W (W.putObj (w.heap.size+1) (.loop { rec .ready none with state:=.busy })):=hKb _ _ _ _ (by omega) hl rfl rfl;refine wpIn_mono (hbody _ pre x r a' _ hxs ((hAx pre x a').putObj _ hax (by omega) hl rfl)) ?_;have fin:∀ (jump:Option Code) (W3:World),KeepsFrom w.heap.size (W.putObj (w.heap.size+1) (.loop { rec .ready none with state:=.busy })) W3 →
          (Instr.endRound (w.heap.size+1) jump).run P W3=.ok (.bool jump.isNone) (W3.putObj (w.heap.size+1) (.loop (rec (if jump.isNone then .ready else .done) jump))) ∧
          W3.heap[w.heap.size+1]? = some (.loop { rec .ready none with state:=.busy }) ∧
          (W3.putObj (w.heap.size+1) (.loop (rec (if jump.isNone then .ready else .done) jump))).heap[w.heap.size+1]? = some (.loop (rec (if jump.isNone then .ready else .done) jump)) ∧
          (W3.putObj (w.heap.size+1) (.loop (rec (if jump.isNone then .ready else .done) jump))).heap[w.heap.size]? = some (.deferred (some [])):=fun jump W3 hk3=>by
        have hl3:=hk3.same _ _ (by omega) hl2 rfl;have:=run_endRound (P:=P) jump hl3;rw [hrec] at this ⊢;exact ⟨this,by rw [hrec] at hl3;exact hl3,World.putObj_heap_same (Array.getElem?_eq_some_iff.1 hl3).1,(World.putObj_heap_other (by omega)).trans (hk3.same _ _ (Nat.le_refl _) hk2 rfl)⟩
      rintro e a3 W3 hp;cases e with
      | normal =>
        obtain ⟨hk3,hkp3,hi3⟩:=hp;obtain ⟨hr,hl3,hl4,hk4⟩:=fin none W3 hk3;exact ⟨_,_,hr,.inl ⟨rfl,⟨(hI _).putObj _ hi3 (by omega) hl3 rfl,hl4,hk4⟩,hKt hkpa (hKt (hKt hw2 hkp3) (hKb _ _ _ _ (by omega) hl3 rfl rfl))⟩⟩
      | ret =>
        obtain ⟨hk3,hi3⟩:=hp;obtain ⟨hr,hl3,hl4,hk4⟩:=fin (some .ret) W3 hk3;exact ⟨_,_,hr,.inr ⟨rfl,.ret,(hIx _).putObj _ hi3 (by omega) hl3 rfl,hl4,hk4⟩⟩
      | exit id =>
        obtain ⟨hk3,hi3⟩:=hp;obtain ⟨hr,hl3,hl4,hk4⟩:=fin (some (.exit id)) W3 hk3;exact ⟨_,_,hr,.inr ⟨rfl,.exit id,(hIx _).putObj _ hi3 (by omega) hl3 rfl,hl4,hk4⟩⟩
      | goto t =>
        obtain ⟨hk3,hi3⟩:=hp;obtain ⟨hr,hl3,hl4,hk4⟩:=fin (some (.goto t)) W3 hk3;exact ⟨_,_,hr,.inr ⟨rfl,.goto t,(hIx _).putObj _ hi3 (by omega) hl3 rfl,hl4,hk4⟩⟩
      | panic ch=>exact hp.elim
      | outgrown=>exact hp.elim
    · -- BEHIND THE ITERATOR
      rintro e W2 ⟨⟨v,rfl⟩,(⟨hi,hl,hk⟩ | ⟨c,hi,hl,hk⟩)⟩
      · exact ⟨none,_,by have:=run_endLoop (P:=P) hl (by rw [hrec];simp);rw [hrec] at this;exact this,hdone _ _ (Nat.le_refl _) ((hI _).putObj _ hi (by omega) hl rfl) ((World.putObj_heap_other (by omega)).trans hk)⟩
      · exact ⟨some c,_,by have:=run_endLoop (P:=P) hl (by rw [hrec];simp);rw [hrec] at this;exact this,hstop _ c _ (Nat.le_refl _) ((hIx c).putObj _ hi (by omega) hl rfl) ((World.putObj_heap_other (by omega)).trans hk)⟩
end Go.Proofs.YtmbmalkpmanaaaaGreat.aaZ
