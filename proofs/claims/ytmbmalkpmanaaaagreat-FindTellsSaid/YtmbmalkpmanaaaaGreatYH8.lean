/- Lemmas for laws of chapter 7: what the functions that they reach compute. No condition of its own. -/
import Derived.Test.YtmbmalkpmanaaaaGreatYH4
import Derived.Test.YtmbmalkpmanaaaaGreatYH2
import Derived.Test.YtmbmalkpmanaaaaGreatYH7
import Derived.Laws.EntriesVeiled
import Derived.WalkSpells
import Derived.WalkKit
import Derived.OwnWalk
import Derived.BigQuiet
import Derived.Test.YtmbmalkpmanaaaaGreatYH6
namespace Go.Proofs.YtmbmalkpmanaaaaGreat.P
open Go.RowKit Go.Proofs.YtmbmalkpmanaaaaGreatW.iD Go.Proofs.YtmbmalkpmanaaaaGreatW.jA Go.Proofs.YtmbmalkpmanaaaaGreatW.jw
attribute [local go_sem] lS lT mG mH kU kV lU lV   -- for this text's walks alone
set_option linter.unusedVariables false
set_option linter.unusedSimpArgs false
def iI.l0:Nat→Int→Int→Bool→List (S50)→Int→Int→Int→Option (Int × Bool)
 | 0,_,_,_,_,_,_,_=>none
 | k+1,x1,x8,x9,x25,x26,x27,x266000=>if x27<x26 then (if 0≤x27 then (if x27<(x25.length:Int) then ((jh.f ((gW x25 x27).f1)).bind fun aa=>(if aa.2.2=true then ((nD.f aa.1 aa.2.1 x1).bind fun ab=>(if ab=true then (if x9=true then (if (wrap64 ((wrap64 (((gW x25 x27).f0) - x8))*x266000))<0 then (iI.l0 k x1 ((gW x25 x27).f0) true x25 x26 (wrap64 (x27+1)) x266000) else (iI.l0 k x1 x8 x9 x25 x26 (wrap64 (x27+1)) x266000)) else (iI.l0 k x1 ((gW x25 x27).f0) true x25 x26 (wrap64 (x27+1)) x266000)) else (iI.l0 k x1 x8 x9 x25 x26 (wrap64 (x27+1)) x266000))) else (iI.l0 k x1 x8 x9 x25 x26 (wrap64 (x27+1)) x266000))) else (none)) else (none)) else (some (x8,x9))
def iI.f (k:Nat) (ac:Int) (ae:Int) (af:List (List (S38))) (aa:List (S50)) (a1:Int)  : Option (Int × Bool):=(jd.f k ac ae af aa (mx (mn a1 1099511627777) (-1099511627777))).bind fun ab=>(iI.l0 k (mx (mn a1 1099511627777) (-1099511627777)) ab.1 ab.2 aa (aa.length:Int) 0 1)
theorem iI.kT:∀ k,(∀ y0 y1 y2 y3 y4 y5 y6,LeO (iI.l0 k y0 y1 y2 y3 y4 y5 y6) (iI.l0 (k+1) y0 y1 y2 y3 y4 y5 y6))
 | 0=>fun _ _ _ _ _ _ _ r h=>by simp [iI.l0] at h
 | k+1=>by
  have aa:=iI.kT k
  ·intro y0 y1 y2 y3 y4 y5 y6
   unfold iI.l0;exact mo (an aa (an jd.mono trivial))
theorem iI.mono:∀ a0 a1 a2 a3 a4 k,LeO (iI.f k a0 a1 a2 a3 a4) (iI.f (k+1) a0 a1 a2 a3 a4):=by
 intro a0 a1 a2 a3 a4 k;have aa:=iI.kT k;unfold iI.f;exact mo (an aa (an jd.mono trivial))
set_option maxHeartbeats 8000000 in
set_option maxRecDepth 100000 in
theorem iI.calls (k:Nat) (aN:Int) (aO:Int) (aW:Option Addr) (aX:Nat) (aK:List (List (S38))) (bd:Option Addr) (aY:Nat) (aa:List (S50)) (a1:Int)  (r1:Int) (r2:Bool) (w:World) (bk:Kd.C (Kd.slice 38 k38) w aW aK.length aK) (bm:aK.length≤aX) (bn:Kd.C k50 w bd aa.length aa) (bo:aa.length≤aY) (h:iI.f k aN aO aK aa a1=some (r1,r2)) :
 Calls Tryz.prog 29 #[.agg #[.int .i64 aN,.int .i64 aO,.slice aW aK.length aX,.slice bd aa.length aY],.int .i64 a1,.agg #[.int .i64 1,.func (.func 56) #[] #[],.func (.func 57) #[] #[],.func (.func 59) #[] #[]]] w fun e w'=>e=.returned (.tuple #[.int .i64 r1,.bool r2])∧Below w.heap.size w w':=by
 have e0:=Tryz.underlying25;have e1:=Tryz.underlying61;have e2:=Tryz.underlying50;have e3:=Tryz.underlying38;have bV:=am bk;have bW:=am bm;clear bk bm;have a9:=am bn;have bX:=am bo;clear bn bo;have HB:=am (Below.refl w.heap.size w);have H:((jd.f k aN aO aK aa (mx (mn a1 1099511627777) (-1099511627777))).bind fun a8=>(iI.l0 k (mx (mn a1 1099511627777) (-1099511627777)) a8.1 a8.2 aa (aa.length:Int) 0 1))=some (r1,r2):=h;clear h;obtain ⟨bb,be⟩:∃ j_:Int,(mn a1 1099511627777)=j_:=⟨_,rfl⟩;replace H:((jd.f k aN aO aK aa (mx (bb) (-1099511627777))).bind fun a8=>(iI.l0 k (mx (bb) (-1099511627777)) a8.1 a8.2 aa (aa.length:Int) 0 1))=some (r1,r2):=by first | (rw [be] at H;exact H) | (simp only [be] at H ⊢;exact H)
 (try (have dY:bb≤1099511627777:=by (rw [← be];unfold mn;(repeat' split) <;> omega)))
 (try (have dZ:bb≤64:=by omega))
 have d0:(if 1099511627777<a1 then 1099511627777 else a1)=bb:=be;obtain ⟨aQ,bf⟩:∃ j_:Int,(mx (bb) (-1099511627777))=j_:=⟨_,rfl⟩;replace H:((jd.f k aN aO aK aa (aQ)).bind fun a8=>(iI.l0 k aQ a8.1 a8.2 aa (aa.length:Int) 0 1))=some (r1,r2):=by first | (rw [bf] at H;exact H) | (simp only [bf] at H ⊢;exact H)
 have d1:(if (bb)<(-1099511627777) then (-1099511627777) else (bb))=aQ:=bf;replace H:=Option.bind_eq_some_iff.mp H;obtain ⟨⟨bS,bT⟩,A60,H⟩:=H;try dsimp only at H
 have A6:=am A60;clear A60;have H':=am H;clear H;go_enter Tryz.func29,Tryz.ntmps29
 go_wp2_with (first | ((with_reducible refine iC (N:=3) rfl ?_);refine bx 3 25 #[.int .i64 aN,.int .i64 aO,.slice aW aK.length aX,.slice bd aa.length aY] ?_;intro ak hg w7 ap hb;have ae:=am (ap);have bY:=am ((bz hg HB.out:w.heap.size≤ak));have ah:=bY;replace HB:=xb HB hb;clear hb ap hg) | ((with_reducible refine iC (N:=5) rfl ?_);refine bx 5 61 #[.int .i64 1,.func (.func 56) #[] #[],.func (.func 57) #[] #[],.func (.func 59) #[] #[]] ?_;intro al hg w8 ap hb;have ac:=am (ap);have bZ:=am ((bz1 hg HB.out ah.out:w.heap.size≤al));have aj:=bZ;replace HB:=xb1 HB ah hb;have a4:=am ((nl hg ae.out:ak≠al));have a5:=am ((ng hg ae.out:al≠ak));replace ae:=xk ae hb;clear hb ap hg;have e4:=a4.out;have e5:=a5.out;obtain ⟨bq,br,bs,bu,bv,bw,bA,bB⟩:=b4 ae.out;obtain ⟨bC,bD,bE,bF,bG,bH,bI,bJ⟩:=b4 ac.out) | ((with_reducible refine gP (f:=55) rfl ?_);refine xw (some 21) rfl rfl Tryz.func55 (by kernel_rfl) rfl #[.agg #[.int .i64 aN,.int .i64 aO,.slice aW aK.length aX,.slice bd aa.length aY],.int .i64 aQ,.agg #[.int .i64 1,.func (.func 56) #[] #[],.func (.func 57) #[] #[],.func (.func 59) #[] #[]]] rfl (by (try simp only [List.map_toArray,List.map_cons,List.map_nil]);first | done | (simp only [bf];rfl) | rfl | (simp only [List.length_drop,List.length_take];rfl)) ?_;(with_reducible refine (jd.calls k aN aO _ _ aK _ _ aa aQ bS bT _ ?aZ ?a0 ?b0 ?b5 A6.out).mono ?_);(case aZ=>exact kc (Kd.iA bV.out HB.out));(case a0=>exact bW.out);(case b0=>exact kc (Kd.iA a9.out HB.out));(case b5=>exact bX.out);rintro e e6 ⟨rfl,hb⟩;refine ⟨_,rfl,?_⟩;replace ae:=xk ae hb;replace ac:=xk ac hb;replace HB:=xb2 HB ah aj hb;(try clear hb);obtain ⟨bK,bL,bM,bN,bO,bP,bQ,bR⟩:=b4 ae.out))
 go_loopg [8,9,27] k (fun kq v8 v9 v27 w'=>∃ (aV:Int) (a3:Bool) (ab:Int),v8=.int .i64 aV∧v9=.bool a3∧v27=.int .i64 ab∧gL (iI.l0 kq aQ aV a3 aa (aa.length:Int) ab 1=some (r1,r2))∧gL (kq≤k)∧gL (w'.heap[ak]? = some (.cells #[.int .i64 aN,.int .i64 aO,(.slice aW aK.length aX),(.slice bd aa.length aY)] 25 (0,0)))∧gL (w'.heap[al]? = some (.cells #[.int .i64 1,(.func (.func 56) #[] #[]),(.func (.func 57) #[] #[]),(.func (.func 59) #[] #[])] 61 (0,0)))∧gL (Below w.heap.size w w'))
 case atStart=>exact ⟨(bS),(bT),(0),sm,sm,sm,H',⟨Nat.le_refl _⟩,⟨kp ae.out⟩,⟨kp ac.out⟩,⟨bl2 HB.out ah.out aj.out⟩⟩
 case round =>
  clear H';try clear bq
  try clear br
  try clear bs
  try clear bu
  try clear bC
  try clear bD
  try clear bE
  try clear bF
  try clear bK
  try clear bL
  try clear bM
  try clear bN
  try clear bv
  try clear bw
  try clear bA
  try clear bB
  try clear bG
  try clear bH
  try clear bI
  try clear bJ
  try clear bO
  try clear bP
  try clear bQ
  try clear bR
  obtain ⟨aV,a3,ab,rfl,rfl,rfl,HA,ba,ae,ac,HB⟩:=hrel;cases gk with
  | zero=>exact absurd HA.out (by simp [iI.l0])
  | succ k1 =>
   have H:=HA.out;clear HA;simp only [iI.l0] at H;by_cases c14:ab<(aa.length:Int)
   ·rw [if_pos c14] at H
    have b6:=decide_eq_true c14;clear c14;by_cases c15:0≤ab
    case neg=>rw [if_neg c15] at H;exact absurd H (by simp)
    rw [if_pos c15] at H;have d2:=decide_eq_true c15;clear c15;by_cases c16:ab<(aa.length:Int)
    case neg=>rw [if_neg c16] at H;exact absurd H (by simp)
    rw [if_pos c16] at H;have d3:=decide_eq_true c16;clear c16;replace H:=Option.bind_eq_some_iff.mp H;obtain ⟨⟨aP,a2,b7⟩,A170,H⟩:=H;try dsimp only at H
    have bi:=am A170;clear A170;by_cases c18:b7=true
    ·subst c18
     have H1:((nD.f aP a2 aQ).bind fun bj=>(if bj=true then (if a3=true then (if (wrap64 ((wrap64 (((gW aa ab).f0) - aV))*1))<0 then (iI.l0 k1 aQ ((gW aa ab).f0) true aa (aa.length:Int) (wrap64 (ab+1)) 1) else (iI.l0 k1 aQ aV a3 aa (aa.length:Int) (wrap64 (ab+1)) 1)) else (iI.l0 k1 aQ ((gW aa ab).f0) true aa (aa.length:Int) (wrap64 (ab+1)) 1)) else (iI.l0 k1 aQ aV a3 aa (aa.length:Int) (wrap64 (ab+1)) 1)))=some (r1,r2):=by rw [if_pos rfl] at H;exact H
     clear H;have H:=H1;clear H1;replace H:=Option.bind_eq_some_iff.mp H;obtain ⟨bj,bU,H⟩:=H;try dsimp only at H
     have bp:=am bU;clear bU;by_cases c20:bj=true
     ·subst c20
      have H1:(if a3=true then (if (wrap64 ((wrap64 (((gW aa ab).f0) - aV))*1))<0 then (iI.l0 k1 aQ ((gW aa ab).f0) true aa (aa.length:Int) (wrap64 (ab+1)) 1) else (iI.l0 k1 aQ aV a3 aa (aa.length:Int) (wrap64 (ab+1)) 1)) else (iI.l0 k1 aQ ((gW aa ab).f0) true aa (aa.length:Int) (wrap64 (ab+1)) 1))=some (r1,r2):=by rw [if_pos rfl] at H;exact H
      clear H;have H:=H1;clear H1;by_cases c21:a3=true
      ·subst c21
       have H1:(if (wrap64 ((wrap64 (((gW aa ab).f0) - aV))*1))<0 then (iI.l0 k1 aQ ((gW aa ab).f0) true aa (aa.length:Int) (wrap64 (ab+1)) 1) else (iI.l0 k1 aQ aV true aa (aa.length:Int) (wrap64 (ab+1)) 1))=some (r1,r2):=by rw [if_pos rfl] at H;exact H
       clear H;have H:=H1;clear H1;by_cases bg:(wrap64 ((wrap64 (((gW aa ab).f0) - aV))*1))<0
       ·rw [if_pos bg] at H
        have bh:=decide_eq_true bg;(try simp only [Int.mul_one,Int.mul_neg,Int.add_zero] at bh);clear bg;have H':=am H;clear H;have aL:0≤(ab:Int):=of_decide_eq_true asm;have aM:ab<(aa.length:Int):=of_decide_eq_true asm;obtain ⟨aR,ay,az,e268,aA,aB,aC,aD⟩:=kZ a9.out ab aL aM;cases e268;replace aA:=xc HB aA;replace aB:=xc HB aB;have aS:=am aD;have aT:=am aC;clear aD aC;replace aL:=eq_true aL;replace aM:=eq_true aM
        go_wp2_with (first | ((with_reducible refine iC (N:=11) rfl ?_);refine bx 11 50 #[.int .i64 0,.slice none 0 0] ?_;intro ag hg e7 ap hb;have af:=am (ap);have a6:=am ((bz2 hg HB.out ah.out aj.out:w.heap.size≤ag));have ao:=a6;replace HB:=xb2 HB ah aj hb;have aq:=am ((nl hg ae.out:ak≠ag));have aE:=am ((ng hg ae.out:ag≠ak));replace ae:=xk ae hb;have au:=am ((nl hg ac.out:al≠ag));have aF:=am ((ng hg ac.out:ag≠al));replace ac:=xk ac hb;clear hb ap hg;have d4:=aE.out;have d5:=aq.out;have d6:=aF.out;have d7:=au.out;obtain ⟨b8,b9,ca,cb⟩:=b2 af.out) | ((with_reducible refine gP (f:=15) rfl ?_);refine gl 34 Tryz.func15 #[.slice ay ((gW aa ab).f1).length az] ?_;(with_reducible refine (jh.calls _ _ ((gW aa ab).f1) aP a2 true _ ?aZ ?a0 bi.out).mono ?_);(case aZ=>exact Kd.iA aS.out (bl3 HB.out ah.out aj.out ao.out));(case a0=>exact aT.out);rintro e e8 ⟨rfl,hb⟩;refine ⟨_,rfl,?_⟩;replace ae:=am (gU (g:=ak) (o:=.cells #[.int .i64 aN,.int .i64 aO,.slice aW aK.length aX,.slice (some aR) aa.length aY] 25 (0,0)) (kf ae.out aq.out) hb);replace ac:=am (gU (g:=al) (o:=.cells #[.int .i64 1,.func (.func 56) #[] #[],.func (.func 57) #[] #[],.func (.func 59) #[] #[]] 61 (0,0)) (kf ac.out au.out) hb);replace af:=am (gU (g:=ag) (o:=.cells #[.int .i64 ((gW aa ab).f0),.slice ay ((gW aa ab).f1).length az] 50 (0,0)) (by (with_reducible repeat (first | refine gV ?_ _ | refine gQ ?_ | refine gM ?_ _));refine iT (cs:=#[.int .i64 ((gW aa ab).f0),.slice none 0 0]) ?_ 1 _ rfl;(with_reducible repeat (first | refine gV ?_ _ | refine gQ ?_ | refine gM ?_ _));refine iT (cs:=#[.int .i64 0,.slice none 0 0]) ?_ 0 _ rfl;(with_reducible repeat (first | refine gV ?_ _ | refine gQ ?_ | refine gM ?_ _));exact af.out) hb);replace HB:=xb3 HB ah aj ao hb;(try clear hb)) | ((with_reducible refine iC (N:=12) rfl ?_);refine bx 12 38 #[.int .i64 0,.int .i64 0] ?_;intro ai hg e9 ap hb;have aG:=am (ap);have a7:=am ((bz3 hg HB.out ah.out aj.out ao.out:w.heap.size≤ai));have aU:=a7;replace HB:=xb3 HB ah aj ao hb;have av:=am ((nl hg ae.out:ak≠ai));have aH:=am ((ng hg ae.out:ai≠ak));replace ae:=xk ae hb;have aw:=am ((nl hg ac.out:al≠ai));have aI:=am ((ng hg ac.out:ai≠al));replace ac:=xk ac hb;have ax:=am ((nl hg af.out:ag≠ai));have aJ:=am ((ng hg af.out:ai≠ag));replace af:=xk af hb;clear hb ap hg;have d8:=aH.out;have d9:=av.out;have ea:=aI.out;have eb:=aw.out;have ec:=aJ.out;have ed:=ax.out;obtain ⟨cd,ce,cf,cg⟩:=b2 aG.out;have ee:=a5.out;have ef:=a4.out;obtain ⟨ch,ci,cj,ck,cm,cn,co,cp⟩:=b4 ac.out) | (go_at_call 59;(with_reducible refine (nD.calls aP a2 aQ true _ bp.out).mono ?_);rintro e fa ⟨rfl,hb⟩;replace ae:=am (gU (g:=ak) (o:=.cells #[.int .i64 aN,.int .i64 aO,.slice aW aK.length aX,.slice (some aR) aa.length aY] 25 (0,0)) (kf ae.out av.out) hb);replace ac:=am (gU (g:=al) (o:=.cells #[.int .i64 1,.func (.func 56) #[] #[],.func (.func 57) #[] #[],.func (.func 59) #[] #[]] 61 (0,0)) (kf ac.out aw.out) hb);replace af:=am (gU (g:=ag) (o:=.cells #[.int .i64 ((gW aa ab).f0),.slice ay ((gW aa ab).f1).length az] 50 (0,0)) (kf af.out ax.out) hb);replace aG:=am (gU (g:=ai) (o:=.cells #[.int .i64 aP,.int .i64 a2] 38 (0,0)) (by (with_reducible repeat (first | refine gV ?_ _ | refine gQ ?_ | refine gM ?_ _));refine iT (cs:=#[.int .i64 aP,.int .i64 0]) ?_ 1 _ rfl;(with_reducible repeat (first | refine gV ?_ _ | refine gQ ?_ | refine gM ?_ _));refine iT (cs:=#[.int .i64 0,.int .i64 0]) ?_ 0 _ rfl;(with_reducible repeat (first | refine gV ?_ _ | refine gQ ?_ | refine gM ?_ _));exact aG.out) hb);replace HB:=am (kR (by repeat (first | (with_reducible first | exact HB.out | apply jm | apply jf | apply iQ | refine iK ?_ ah.out | refine iK ?_ aj.out | refine iK ?_ ao.out | refine iK ?_ aU.out) | exact HB.out)) hb);(try clear hb);obtain ⟨cq,cr,ct,cu⟩:=b2 af.out;obtain ⟨cv,cw,cx,cy,cz,cA,cB,cC⟩:=b4 ac.out))
        go_roundg k1
        case measure=>have:=ba.out;omega
        case rel=>exact ⟨((gW aa ab).f0),(true),(wrap64 (ab+1)),sm,sm,sm,H',⟨by have:=ba.out;omega⟩,⟨kp ae.out⟩,⟨kp ac.out⟩,⟨by repeat (first | (with_reducible first | exact HB.out | apply jm | apply jf | apply iQ | refine iK ?_ ah.out | refine iK ?_ aj.out | refine iK ?_ ao.out | refine iK ?_ aU.out) | exact HB.out)⟩⟩
       ·rw [if_neg bg] at H
        have bh:=decide_eq_false bg;(try simp only [Int.mul_one,Int.mul_neg,Int.add_zero] at bh);clear bg;have H':=am H;clear H;have aL:0≤(ab:Int):=of_decide_eq_true asm;have aM:ab<(aa.length:Int):=of_decide_eq_true asm;obtain ⟨aR,ay,az,e268,aA,aB,aC,aD⟩:=kZ a9.out ab aL aM;cases e268;replace aA:=xc HB aA;replace aB:=xc HB aB;have aS:=am aD;have aT:=am aC;clear aD aC;replace aL:=eq_true aL;replace aM:=eq_true aM
        go_wp2_with (first | ((with_reducible refine iC (N:=11) rfl ?_);refine bx 11 50 #[.int .i64 0,.slice none 0 0] ?_;intro ag hg fd ap hb;have af:=am (ap);have a6:=am ((bz2 hg HB.out ah.out aj.out:w.heap.size≤ag));have ao:=a6;replace HB:=xb2 HB ah aj hb;have aq:=am ((nl hg ae.out:ak≠ag));have aE:=am ((ng hg ae.out:ag≠ak));replace ae:=xk ae hb;have au:=am ((nl hg ac.out:al≠ag));have aF:=am ((ng hg ac.out:ag≠al));replace ac:=xk ac hb;clear hb ap hg;have eg:=aE.out;have eh:=aq.out;have ei:=aF.out;have ej:=au.out;obtain ⟨cD,cE,cF,cG⟩:=b2 af.out) | ((with_reducible refine gP (f:=15) rfl ?_);refine gl 34 Tryz.func15 #[.slice ay ((gW aa ab).f1).length az] ?_;(with_reducible refine (jh.calls _ _ ((gW aa ab).f1) aP a2 true _ ?aZ ?a0 bi.out).mono ?_);(case aZ=>exact Kd.iA aS.out (bl3 HB.out ah.out aj.out ao.out));(case a0=>exact aT.out);rintro e fe ⟨rfl,hb⟩;refine ⟨_,rfl,?_⟩;replace ae:=am (gU (g:=ak) (o:=.cells #[.int .i64 aN,.int .i64 aO,.slice aW aK.length aX,.slice (some aR) aa.length aY] 25 (0,0)) (kf ae.out aq.out) hb);replace ac:=am (gU (g:=al) (o:=.cells #[.int .i64 1,.func (.func 56) #[] #[],.func (.func 57) #[] #[],.func (.func 59) #[] #[]] 61 (0,0)) (kf ac.out au.out) hb);replace af:=am (gU (g:=ag) (o:=.cells #[.int .i64 ((gW aa ab).f0),.slice ay ((gW aa ab).f1).length az] 50 (0,0)) (by (with_reducible repeat (first | refine gV ?_ _ | refine gQ ?_ | refine gM ?_ _));refine iT (cs:=#[.int .i64 ((gW aa ab).f0),.slice none 0 0]) ?_ 1 _ rfl;(with_reducible repeat (first | refine gV ?_ _ | refine gQ ?_ | refine gM ?_ _));refine iT (cs:=#[.int .i64 0,.slice none 0 0]) ?_ 0 _ rfl;(with_reducible repeat (first | refine gV ?_ _ | refine gQ ?_ | refine gM ?_ _));exact af.out) hb);replace HB:=xb3 HB ah aj ao hb;(try clear hb)) | ((with_reducible refine iC (N:=12) rfl ?_);refine bx 12 38 #[.int .i64 0,.int .i64 0] ?_;intro ai hg ff ap hb;have aG:=am (ap);have a7:=am ((bz3 hg HB.out ah.out aj.out ao.out:w.heap.size≤ai));have aU:=a7;replace HB:=xb3 HB ah aj ao hb;have av:=am ((nl hg ae.out:ak≠ai));have aH:=am ((ng hg ae.out:ai≠ak));replace ae:=xk ae hb;have aw:=am ((nl hg ac.out:al≠ai));have aI:=am ((ng hg ac.out:ai≠al));replace ac:=xk ac hb;have ax:=am ((nl hg af.out:ag≠ai));have aJ:=am ((ng hg af.out:ai≠ag));replace af:=xk af hb;clear hb ap hg;have ek:=aH.out;have el:=av.out;have em:=aI.out;have en:=aw.out;have eo:=aJ.out;have ep:=ax.out;obtain ⟨cH,cI,cJ,cK⟩:=b2 aG.out;have eq:=a5.out;have er:=a4.out;obtain ⟨cL,cM,cN,cO,cP,cQ,cR,cS⟩:=b4 ac.out) | (go_at_call 59;(with_reducible refine (nD.calls aP a2 aQ true _ bp.out).mono ?_);rintro e fg ⟨rfl,hb⟩;replace ae:=am (gU (g:=ak) (o:=.cells #[.int .i64 aN,.int .i64 aO,.slice aW aK.length aX,.slice (some aR) aa.length aY] 25 (0,0)) (kf ae.out av.out) hb);replace ac:=am (gU (g:=al) (o:=.cells #[.int .i64 1,.func (.func 56) #[] #[],.func (.func 57) #[] #[],.func (.func 59) #[] #[]] 61 (0,0)) (kf ac.out aw.out) hb);replace af:=am (gU (g:=ag) (o:=.cells #[.int .i64 ((gW aa ab).f0),.slice ay ((gW aa ab).f1).length az] 50 (0,0)) (kf af.out ax.out) hb);replace aG:=am (gU (g:=ai) (o:=.cells #[.int .i64 aP,.int .i64 a2] 38 (0,0)) (by (with_reducible repeat (first | refine gV ?_ _ | refine gQ ?_ | refine gM ?_ _));refine iT (cs:=#[.int .i64 aP,.int .i64 0]) ?_ 1 _ rfl;(with_reducible repeat (first | refine gV ?_ _ | refine gQ ?_ | refine gM ?_ _));refine iT (cs:=#[.int .i64 0,.int .i64 0]) ?_ 0 _ rfl;(with_reducible repeat (first | refine gV ?_ _ | refine gQ ?_ | refine gM ?_ _));exact aG.out) hb);replace HB:=am (kR (by repeat (first | (with_reducible first | exact HB.out | apply jm | apply jf | apply iQ | refine iK ?_ ah.out | refine iK ?_ aj.out | refine iK ?_ ao.out | refine iK ?_ aU.out) | exact HB.out)) hb);(try clear hb);obtain ⟨cT,cU,cV,cW⟩:=b2 af.out;obtain ⟨cX,cY,cZ,c0,c1,da,db,dc⟩:=b4 ac.out))
        go_roundg k1
        case measure=>have:=ba.out;omega
        case rel=>exact ⟨(aV),(true),(wrap64 (ab+1)),sm,sm,sm,H',⟨by have:=ba.out;omega⟩,⟨kp ae.out⟩,⟨kp ac.out⟩,⟨by repeat (first | (with_reducible first | exact HB.out | apply jm | apply jf | apply iQ | refine iK ?_ ah.out | refine iK ?_ aj.out | refine iK ?_ ao.out | refine iK ?_ aU.out) | exact HB.out)⟩⟩
      ·replace c21:=Bool.eq_false_iff.mpr c21
       subst c21;have H1:(iI.l0 k1 aQ ((gW aa ab).f0) true aa (aa.length:Int) (wrap64 (ab+1)) 1)=some (r1,r2):=by rw [if_neg (show ¬ (false=true) by decide)] at H;exact H
       clear H;have H:=H1;clear H1;have H':=am H;clear H;have aL:0≤(ab:Int):=of_decide_eq_true asm;have aM:ab<(aa.length:Int):=of_decide_eq_true asm;obtain ⟨aR,ay,az,e268,aA,aB,aC,aD⟩:=kZ a9.out ab aL aM;cases e268;replace aA:=xc HB aA;replace aB:=xc HB aB;have aS:=am aD;have aT:=am aC;clear aD aC;replace aL:=eq_true aL;replace aM:=eq_true aM
       go_wp2_with (first | ((with_reducible refine iC (N:=11) rfl ?_);refine bx 11 50 #[.int .i64 0,.slice none 0 0] ?_;intro ag hg fh ap hb;have af:=am (ap);have a6:=am ((bz2 hg HB.out ah.out aj.out:w.heap.size≤ag));have ao:=a6;replace HB:=xb2 HB ah aj hb;have aq:=am ((nl hg ae.out:ak≠ag));have aE:=am ((ng hg ae.out:ag≠ak));replace ae:=xk ae hb;have au:=am ((nl hg ac.out:al≠ag));have aF:=am ((ng hg ac.out:ag≠al));replace ac:=xk ac hb;clear hb ap hg;have es:=aE.out;have et:=aq.out;have eu:=aF.out;have ev:=au.out;obtain ⟨dd,de,df,dg⟩:=b2 af.out) | ((with_reducible refine gP (f:=15) rfl ?_);refine gl 34 Tryz.func15 #[.slice ay ((gW aa ab).f1).length az] ?_;(with_reducible refine (jh.calls _ _ ((gW aa ab).f1) aP a2 true _ ?aZ ?a0 bi.out).mono ?_);(case aZ=>exact Kd.iA aS.out (bl3 HB.out ah.out aj.out ao.out));(case a0=>exact aT.out);rintro e fi ⟨rfl,hb⟩;refine ⟨_,rfl,?_⟩;replace ae:=am (gU (g:=ak) (o:=.cells #[.int .i64 aN,.int .i64 aO,.slice aW aK.length aX,.slice (some aR) aa.length aY] 25 (0,0)) (kf ae.out aq.out) hb);replace ac:=am (gU (g:=al) (o:=.cells #[.int .i64 1,.func (.func 56) #[] #[],.func (.func 57) #[] #[],.func (.func 59) #[] #[]] 61 (0,0)) (kf ac.out au.out) hb);replace af:=am (gU (g:=ag) (o:=.cells #[.int .i64 ((gW aa ab).f0),.slice ay ((gW aa ab).f1).length az] 50 (0,0)) (by (with_reducible repeat (first | refine gV ?_ _ | refine gQ ?_ | refine gM ?_ _));refine iT (cs:=#[.int .i64 ((gW aa ab).f0),.slice none 0 0]) ?_ 1 _ rfl;(with_reducible repeat (first | refine gV ?_ _ | refine gQ ?_ | refine gM ?_ _));refine iT (cs:=#[.int .i64 0,.slice none 0 0]) ?_ 0 _ rfl;(with_reducible repeat (first | refine gV ?_ _ | refine gQ ?_ | refine gM ?_ _));exact af.out) hb);replace HB:=xb3 HB ah aj ao hb;(try clear hb)) | ((with_reducible refine iC (N:=12) rfl ?_);refine bx 12 38 #[.int .i64 0,.int .i64 0] ?_;intro ai hg fj ap hb;have aG:=am (ap);have a7:=am ((bz3 hg HB.out ah.out aj.out ao.out:w.heap.size≤ai));have aU:=a7;replace HB:=xb3 HB ah aj ao hb;have av:=am ((nl hg ae.out:ak≠ai));have aH:=am ((ng hg ae.out:ai≠ak));replace ae:=xk ae hb;have aw:=am ((nl hg ac.out:al≠ai));have aI:=am ((ng hg ac.out:ai≠al));replace ac:=xk ac hb;have ax:=am ((nl hg af.out:ag≠ai));have aJ:=am ((ng hg af.out:ai≠ag));replace af:=xk af hb;clear hb ap hg;have ew:=aH.out;have ex:=av.out;have ey:=aI.out;have ez:=aw.out;have eA:=aJ.out;have eB:=ax.out;obtain ⟨dh,di,dj,dk⟩:=b2 aG.out;have eC:=a5.out;have eD:=a4.out;obtain ⟨dl,dm,dp,dq,dr,dt,du,dv⟩:=b4 ac.out) | (go_at_call 59;(with_reducible refine (nD.calls aP a2 aQ true _ bp.out).mono ?_);rintro e fk ⟨rfl,hb⟩;replace ae:=am (gU (g:=ak) (o:=.cells #[.int .i64 aN,.int .i64 aO,.slice aW aK.length aX,.slice (some aR) aa.length aY] 25 (0,0)) (kf ae.out av.out) hb);replace ac:=am (gU (g:=al) (o:=.cells #[.int .i64 1,.func (.func 56) #[] #[],.func (.func 57) #[] #[],.func (.func 59) #[] #[]] 61 (0,0)) (kf ac.out aw.out) hb);replace af:=am (gU (g:=ag) (o:=.cells #[.int .i64 ((gW aa ab).f0),.slice ay ((gW aa ab).f1).length az] 50 (0,0)) (kf af.out ax.out) hb);replace aG:=am (gU (g:=ai) (o:=.cells #[.int .i64 aP,.int .i64 a2] 38 (0,0)) (by (with_reducible repeat (first | refine gV ?_ _ | refine gQ ?_ | refine gM ?_ _));refine iT (cs:=#[.int .i64 aP,.int .i64 0]) ?_ 1 _ rfl;(with_reducible repeat (first | refine gV ?_ _ | refine gQ ?_ | refine gM ?_ _));refine iT (cs:=#[.int .i64 0,.int .i64 0]) ?_ 0 _ rfl;(with_reducible repeat (first | refine gV ?_ _ | refine gQ ?_ | refine gM ?_ _));exact aG.out) hb);replace HB:=am (kR (by repeat (first | (with_reducible first | exact HB.out | apply jm | apply jf | apply iQ | refine iK ?_ ah.out | refine iK ?_ aj.out | refine iK ?_ ao.out | refine iK ?_ aU.out) | exact HB.out)) hb);(try clear hb);obtain ⟨dw,dx,dy,dz⟩:=b2 af.out))
       go_roundg k1
       case measure=>have:=ba.out;omega
       case rel=>exact ⟨((gW aa ab).f0),(true),(wrap64 (ab+1)),sm,sm,sm,H',⟨by have:=ba.out;omega⟩,⟨kp ae.out⟩,⟨kp ac.out⟩,⟨by repeat (first | (with_reducible first | exact HB.out | apply jm | apply jf | apply iQ | refine iK ?_ ah.out | refine iK ?_ aj.out | refine iK ?_ ao.out | refine iK ?_ aU.out) | exact HB.out)⟩⟩
     ·replace c20:=Bool.eq_false_iff.mpr c20
      subst c20;have H1:(iI.l0 k1 aQ aV a3 aa (aa.length:Int) (wrap64 (ab+1)) 1)=some (r1,r2):=by rw [if_neg (show ¬ (false=true) by decide)] at H;exact H
      clear H;have H:=H1;clear H1;have H':=am H;clear H;have aL:0≤(ab:Int):=of_decide_eq_true asm;have aM:ab<(aa.length:Int):=of_decide_eq_true asm;obtain ⟨aR,ay,az,e268,aA,aB,aC,aD⟩:=kZ a9.out ab aL aM;cases e268;replace aA:=xc HB aA;replace aB:=xc HB aB;have aS:=am aD;have aT:=am aC;clear aD aC;replace aL:=eq_true aL;replace aM:=eq_true aM
      go_wp2_with (first | ((with_reducible refine iC (N:=11) rfl ?_);refine bx 11 50 #[.int .i64 0,.slice none 0 0] ?_;intro ag hg fl ap hb;have af:=am (ap);have a6:=am ((bz2 hg HB.out ah.out aj.out:w.heap.size≤ag));have ao:=a6;replace HB:=xb2 HB ah aj hb;have aq:=am ((nl hg ae.out:ak≠ag));have aE:=am ((ng hg ae.out:ag≠ak));replace ae:=xk ae hb;have au:=am ((nl hg ac.out:al≠ag));have aF:=am ((ng hg ac.out:ag≠al));replace ac:=xk ac hb;clear hb ap hg;have eE:=aE.out;have eF:=aq.out;have eG:=aF.out;have eH:=au.out;obtain ⟨dA,dB,dC,dD⟩:=b2 af.out) | ((with_reducible refine gP (f:=15) rfl ?_);refine gl 34 Tryz.func15 #[.slice ay ((gW aa ab).f1).length az] ?_;(with_reducible refine (jh.calls _ _ ((gW aa ab).f1) aP a2 true _ ?aZ ?a0 bi.out).mono ?_);(case aZ=>exact Kd.iA aS.out (bl3 HB.out ah.out aj.out ao.out));(case a0=>exact aT.out);rintro e fm ⟨rfl,hb⟩;refine ⟨_,rfl,?_⟩;replace ae:=am (gU (g:=ak) (o:=.cells #[.int .i64 aN,.int .i64 aO,.slice aW aK.length aX,.slice (some aR) aa.length aY] 25 (0,0)) (kf ae.out aq.out) hb);replace ac:=am (gU (g:=al) (o:=.cells #[.int .i64 1,.func (.func 56) #[] #[],.func (.func 57) #[] #[],.func (.func 59) #[] #[]] 61 (0,0)) (kf ac.out au.out) hb);replace af:=am (gU (g:=ag) (o:=.cells #[.int .i64 ((gW aa ab).f0),.slice ay ((gW aa ab).f1).length az] 50 (0,0)) (by (with_reducible repeat (first | refine gV ?_ _ | refine gQ ?_ | refine gM ?_ _));refine iT (cs:=#[.int .i64 ((gW aa ab).f0),.slice none 0 0]) ?_ 1 _ rfl;(with_reducible repeat (first | refine gV ?_ _ | refine gQ ?_ | refine gM ?_ _));refine iT (cs:=#[.int .i64 0,.slice none 0 0]) ?_ 0 _ rfl;(with_reducible repeat (first | refine gV ?_ _ | refine gQ ?_ | refine gM ?_ _));exact af.out) hb);replace HB:=xb3 HB ah aj ao hb;(try clear hb)) | ((with_reducible refine iC (N:=12) rfl ?_);refine bx 12 38 #[.int .i64 0,.int .i64 0] ?_;intro ai hg fo ap hb;have aG:=am (ap);have a7:=am ((bz3 hg HB.out ah.out aj.out ao.out:w.heap.size≤ai));have aU:=a7;replace HB:=xb3 HB ah aj ao hb;have av:=am ((nl hg ae.out:ak≠ai));have aH:=am ((ng hg ae.out:ai≠ak));replace ae:=xk ae hb;have aw:=am ((nl hg ac.out:al≠ai));have aI:=am ((ng hg ac.out:ai≠al));replace ac:=xk ac hb;have ax:=am ((nl hg af.out:ag≠ai));have aJ:=am ((ng hg af.out:ai≠ag));replace af:=xk af hb;clear hb ap hg;have eI:=aH.out;have eJ:=av.out;have eK:=aI.out;have eL:=aw.out;have eM:=aJ.out;have eN:=ax.out;obtain ⟨dE,dF,dG,dH⟩:=b2 aG.out;have eO:=a5.out;have eP:=a4.out;obtain ⟨dI,dJ,dK,dL,dM,dN,dO,dP⟩:=b4 ac.out) | (go_at_call 59;(with_reducible refine (nD.calls aP a2 aQ false _ bp.out).mono ?_);rintro e fq ⟨rfl,hb⟩;replace ae:=am (gU (g:=ak) (o:=.cells #[.int .i64 aN,.int .i64 aO,.slice aW aK.length aX,.slice (some aR) aa.length aY] 25 (0,0)) (kf ae.out av.out) hb);replace ac:=am (gU (g:=al) (o:=.cells #[.int .i64 1,.func (.func 56) #[] #[],.func (.func 57) #[] #[],.func (.func 59) #[] #[]] 61 (0,0)) (kf ac.out aw.out) hb);replace af:=am (gU (g:=ag) (o:=.cells #[.int .i64 ((gW aa ab).f0),.slice ay ((gW aa ab).f1).length az] 50 (0,0)) (kf af.out ax.out) hb);replace aG:=am (gU (g:=ai) (o:=.cells #[.int .i64 aP,.int .i64 a2] 38 (0,0)) (by (with_reducible repeat (first | refine gV ?_ _ | refine gQ ?_ | refine gM ?_ _));refine iT (cs:=#[.int .i64 aP,.int .i64 0]) ?_ 1 _ rfl;(with_reducible repeat (first | refine gV ?_ _ | refine gQ ?_ | refine gM ?_ _));refine iT (cs:=#[.int .i64 0,.int .i64 0]) ?_ 0 _ rfl;(with_reducible repeat (first | refine gV ?_ _ | refine gQ ?_ | refine gM ?_ _));exact aG.out) hb);replace HB:=am (kR (by repeat (first | (with_reducible first | exact HB.out | apply jm | apply jf | apply iQ | refine iK ?_ ah.out | refine iK ?_ aj.out | refine iK ?_ ao.out | refine iK ?_ aU.out) | exact HB.out)) hb);(try clear hb)))
      go_roundg k1
      case measure=>have:=ba.out;omega
      case rel=>exact ⟨(aV),(a3),(wrap64 (ab+1)),sm,sm,sm,H',⟨by have:=ba.out;omega⟩,⟨kp ae.out⟩,⟨kp ac.out⟩,⟨by repeat (first | (with_reducible first | exact HB.out | apply jm | apply jf | apply iQ | refine iK ?_ ah.out | refine iK ?_ aj.out | refine iK ?_ ao.out | refine iK ?_ aU.out) | exact HB.out)⟩⟩
    ·replace c18:=Bool.eq_false_iff.mpr c18
     subst c18;have H1:(iI.l0 k1 aQ aV a3 aa (aa.length:Int) (wrap64 (ab+1)) 1)=some (r1,r2):=by rw [if_neg (show ¬ (false=true) by decide)] at H;exact H
     clear H;have H:=H1;clear H1;have H':=am H;clear H;have aL:0≤(ab:Int):=of_decide_eq_true asm;have aM:ab<(aa.length:Int):=of_decide_eq_true asm;obtain ⟨aR,ay,az,e268,aA,aB,aC,aD⟩:=kZ a9.out ab aL aM;cases e268;replace aA:=xc HB aA;replace aB:=xc HB aB;have aS:=am aD;have aT:=am aC;clear aD aC;replace aL:=eq_true aL;replace aM:=eq_true aM
     go_wp2_with (first | ((with_reducible refine iC (N:=11) rfl ?_);refine bx 11 50 #[.int .i64 0,.slice none 0 0] ?_;intro ag hg ft ap hb;have af:=am (ap);have a6:=am ((bz2 hg HB.out ah.out aj.out:w.heap.size≤ag));have ao:=a6;replace HB:=xb2 HB ah aj hb;have aq:=am ((nl hg ae.out:ak≠ag));have aE:=am ((ng hg ae.out:ag≠ak));replace ae:=xk ae hb;have au:=am ((nl hg ac.out:al≠ag));have aF:=am ((ng hg ac.out:ag≠al));replace ac:=xk ac hb;clear hb ap hg;have eQ:=aE.out;have eR:=aq.out;have eS:=aF.out;have eT:=au.out;obtain ⟨dQ,dR,dS,dT⟩:=b2 af.out) | ((with_reducible refine gP (f:=15) rfl ?_);refine gl 34 Tryz.func15 #[.slice ay ((gW aa ab).f1).length az] ?_;(with_reducible refine (jh.calls _ _ ((gW aa ab).f1) aP a2 false _ ?aZ ?a0 bi.out).mono ?_);(case aZ=>exact Kd.iA aS.out (bl3 HB.out ah.out aj.out ao.out));(case a0=>exact aT.out);rintro e fu ⟨rfl,hb⟩;refine ⟨_,rfl,?_⟩;replace ae:=am (gU (g:=ak) (o:=.cells #[.int .i64 aN,.int .i64 aO,.slice aW aK.length aX,.slice (some aR) aa.length aY] 25 (0,0)) (kf ae.out aq.out) hb);replace ac:=am (gU (g:=al) (o:=.cells #[.int .i64 1,.func (.func 56) #[] #[],.func (.func 57) #[] #[],.func (.func 59) #[] #[]] 61 (0,0)) (kf ac.out au.out) hb);replace af:=am (gU (g:=ag) (o:=.cells #[.int .i64 ((gW aa ab).f0),.slice ay ((gW aa ab).f1).length az] 50 (0,0)) (by (with_reducible repeat (first | refine gV ?_ _ | refine gQ ?_ | refine gM ?_ _));refine iT (cs:=#[.int .i64 ((gW aa ab).f0),.slice none 0 0]) ?_ 1 _ rfl;(with_reducible repeat (first | refine gV ?_ _ | refine gQ ?_ | refine gM ?_ _));refine iT (cs:=#[.int .i64 0,.slice none 0 0]) ?_ 0 _ rfl;(with_reducible repeat (first | refine gV ?_ _ | refine gQ ?_ | refine gM ?_ _));exact af.out) hb);replace HB:=xb3 HB ah aj ao hb;(try clear hb)) | ((with_reducible refine iC (N:=12) rfl ?_);refine bx 12 38 #[.int .i64 0,.int .i64 0] ?_;intro ai hg fv ap hb;have aG:=am (ap);have a7:=am ((bz3 hg HB.out ah.out aj.out ao.out:w.heap.size≤ai));have aU:=a7;replace HB:=xb3 HB ah aj ao hb;have av:=am ((nl hg ae.out:ak≠ai));have aH:=am ((ng hg ae.out:ai≠ak));replace ae:=xk ae hb;have aw:=am ((nl hg ac.out:al≠ai));have aI:=am ((ng hg ac.out:ai≠al));replace ac:=xk ac hb;have ax:=am ((nl hg af.out:ag≠ai));have aJ:=am ((ng hg af.out:ai≠ag));replace af:=xk af hb;clear hb ap hg;have eU:=aH.out;have eV:=av.out;have eW:=aI.out;have eX:=aw.out;have eY:=aJ.out;have eZ:=ax.out;obtain ⟨dU,dV,dW,dX⟩:=b2 aG.out))
     go_roundg k1
     case measure=>have:=ba.out;omega
     case rel=>exact ⟨(aV),(a3),(wrap64 (ab+1)),sm,sm,sm,H',⟨by have:=ba.out;omega⟩,⟨kf ae.out av.out⟩,⟨kf ac.out aw.out⟩,⟨by repeat (first | (with_reducible first | exact HB.out | apply jm | apply jf | apply iQ | refine iK ?_ ah.out | refine iK ?_ aj.out | refine iK ?_ ao.out | refine iK ?_ aU.out) | exact HB.out)⟩⟩
   ·rw [if_neg c14] at H
    have b6:=decide_eq_false c14;clear c14;simp only [Option.some.injEq,Prod.mk.injEq] at H;obtain ⟨rfl,rfl⟩:=H;go_wp2;go_ret2;exact ⟨by first | rfl | (simp [jV,jW] <;> rfl) | (simp only [← be,← bf];first | rfl | (simp [jV,jW] <;> rfl)) | (simp [*,jV,jW] <;> rfl),bl2 HB.out ah.out aj.out⟩
end Go.Proofs.YtmbmalkpmanaaaaGreat.P
namespace Go.Proofs.YtmbmalkpmanaaaaGreat.P
set_option linter.unusedVariables false
set_option linter.unusedSimpArgs false
open Go.RowKit Go.Proofs.YtmbmalkpmanaaaaGreatW.iD Go.Proofs.YtmbmalkpmanaaaaGreatW.jA
def uR.f:Option Int:=some 0
set_option maxRecDepth 100000 in
theorem uR.calls (r:Int) (w:World) (h:uR.f=some r):Calls Tryz.prog 30 #[] w fun e w'=>e=.returned (.agg #[.int .i64 1,.func (.func 56) #[] #[],.func (.func 57) #[] #[],.func (.func 59) #[] #[]])∧Below w.heap.size w w':=by
  go_enter Tryz.func30,Tryz.ntmps30
  go_wp2
  exact bodyPost_ret (results_cell_row rfl _ _ w.heap.size 61 #[.int .i64 1,.func (.func 56) #[] #[],.func (.func 57) #[] #[],.func (.func 59) #[] #[]] (0,0) _ rfl (nu _ _) Tryz.underlying61 rfl (by kernel_rfl)) rfl ⟨rfl,(Below.refl _ _).alloc (Nat.le_refl _) _⟩
def qW.f:Option Int:=some 0
set_option maxRecDepth 100000 in
theorem qW.calls (r:Int) (w:World) (h:qW.f=some r):Calls Tryz.prog 31 #[] w fun e w'=>e=.returned (.agg #[.int .i64 (-1),.func (.func 60) #[] #[],.func (.func 61) #[] #[],.func (.func 62) #[] #[]])∧Below w.heap.size w w':=by
  go_enter Tryz.func31,Tryz.ntmps31
  go_wp2
  exact bodyPost_ret (results_cell_row rfl _ _ w.heap.size 61 #[.int .i64 (-1),.func (.func 60) #[] #[],.func (.func 61) #[] #[],.func (.func 62) #[] #[]] (0,0) _ rfl (nu _ _) Tryz.underlying61 rfl (by kernel_rfl)) rfl ⟨rfl,(Below.refl _ _).alloc (Nat.le_refl _) _⟩
end Go.Proofs.YtmbmalkpmanaaaaGreat.P
namespace Go.Proofs.YtmbmalkpmanaaaaGreat.P
open Go.RowKit Go.Proofs.YtmbmalkpmanaaaaGreatW.iD Go.Proofs.YtmbmalkpmanaaaaGreatW.jA Go.Proofs.YtmbmalkpmanaaaaGreatW.jw
attribute [local go_sem] lS lT mG mH kU kV lU lV   -- for this text's walks alone
set_option linter.unusedVariables false
set_option linter.unusedSimpArgs false
def jv.f (k:Nat) (ab:Int) (ac:Int) (ae:List (List (S38))) (af:List (S50)) (a1:Int):Option (Int × Bool):=(uR.f).bind fun ag=>((iI.f k ab ac ae af a1).bind fun aa=>(some (aa.1,aa.2)))
theorem jv.mono:∀ a0 a1 a2 a3 a4 k,LeO (jv.f k a0 a1 a2 a3 a4) (jv.f (k+1) a0 a1 a2 a3 a4):=by
 intro a0 a1 a2 a3 a4 k;unfold jv.f;exact mo (an iI.mono trivial)
def jv.T1:Bool × List (List Nat × List Nat):=(true,[([],[]),([],[]),([],[]),([0,1,2,2],[0,1,2]),([3],[3]),([3],[3]),([4,3,0,1,2,3,4,5],[4]),([5,6,0,1,2,3,4,5,6],[5])])
def jv.B1:List Nat:=[0,0,0,7,15,15,63,127]
theorem jv.ae2:qc .any (opsOf Tryz.f10 1)=jv.T1:=by kernel_rfl
theorem jv.ads:l8 jv.T1.2 jv.B1=true:=by kernel_rfl
set_option maxHeartbeats 8000000 in
set_option maxRecDepth 100000 in
theorem jv.calls (k:Nat) (ae:Int) (af:Int) (ai:Option Addr) (aj:Nat) (ab:List (List (S38))) (ak:Option Addr) (al:Nat) (ac:List (S50)) (a1:Int) (r1:Int) (r2:Bool) (w:World) (ap:Kd.C (Kd.slice 38 k38) w ai ab.length ab) (aq:ab.length≤aj) (au:Kd.C k50 w ak ac.length ac) (av:ac.length≤al) (h:jv.f k ae af ab ac a1=some (r1,r2)) :
 Calls Tryz.prog 10 #[.agg #[.int .i64 ae,.int .i64 af,.slice ai ab.length aj,.slice ak ac.length al],.int .i64 a1] w fun e w'=>e=.returned (.tuple #[.int .i64 r1,.bool r2])∧Below w.heap.size w w':=by
 have aM:=Tryz.underlying25;have az:=am ap;have aA:=am aq;clear ap aq;have aB:=am au;have aC:=am av;clear au av;have HB:=am (Below.refl w.heap.size w);have H:((uR.f).bind fun ax=>((iI.f k ae af ab ac a1).bind fun aw=>(some (aw.1,aw.2))))=some (r1,r2):=h;clear h;replace H:=Option.bind_eq_some_iff.mp H;obtain ⟨ax,aI,H⟩:=H;try dsimp only at H
 have A3:=am aI;clear aI;replace H:=Option.bind_eq_some_iff.mp H;obtain ⟨⟨aJ,aK⟩,A40,H⟩:=H;try dsimp only at H
 have A4:=am A40;clear A40;simp only [Option.some.injEq,Prod.mk.injEq] at H;obtain ⟨rfl,rfl⟩:=H;go_enter Tryz.func10,Tryz.ntmps10;try go_wp2_with (first | ((with_reducible refine iC (N:=2) rfl ?_);refine bx 2 25 #[.int .i64 ae,.int .i64 af,.slice ai ab.length aj,.slice ak ac.length al] ?_;intro ag hg w5 ay hb;have aa:=am (ay);have aD:=am ((bz hg HB.out:w.heap.size≤ag));have ao:=aD;replace HB:=xb HB hb;clear hb ay hg))
 replace aa:=am (gQ aa.out);replace HB:=am (iQ HB.out);refine lu (n:=8) (S:=fun w'=>w'.cell? ⟨ag,0,none⟩=some (.int .i64 ae)∧w'.cell? ⟨ag,1,none⟩=some (.int .i64 af)∧w'.cell? ⟨ag,2,none⟩=some (.slice ai ab.length aj)∧w'.cell? ⟨ag,3,none⟩=some (.slice ak ac.length al)) (ds:=[]) (rs false [8]) (by kernel_rfl) rfl rfl ⟨bc aa.out 0,bc aa.out 1,bc aa.out 2,bc aa.out 3⟩ (fun hHeld => ?_);refine jK jv.ae2 jv.ads (fun ah aL => ?_);generalize w5.drew=w6 at aa HB hHeld ⊢;refine px 1 7 (rs false [1,1,6]) ah.out ?_;refine tx 0 6 (rs true [2,6]) ah.out aL.out hHeld ?_;refine ny (i:=2) (N:=some 8) (rs true [3,5]) rfl rfl (jM ah.out (by kernel_rfl)) (by decide) (fun K hK => ?_);refine lC Tryz.func30 (by kernel_rfl) rfl #[] (by rfl) rfl rfl ar ?_;with_reducible refine (uR.calls  ax _ A3.out).mono ?_
 rintro e w7 ⟨rfl,hb⟩;refine ⟨_,rfl,?_⟩;replace aa:=xk aa hb;replace HB:=xb1 HB ao hb;(try clear hb);refine hK.out _ _ ⟨bc aa.out 0,bc aa.out 1,bc aa.out 2,bc aa.out 3⟩ (fun hHeld => ?_);clear hK K;refine nx 8 ?_;refine ny (i:=3) (N:=some 9) (rs true [4,4]) rfl rfl (jM ah.out (by kernel_rfl)) (by decide) (fun K hK => ?_);refine lC Tryz.func29 (by kernel_rfl) rfl #[.agg #[.int .i64 ae,.int .i64 af,.slice ai ab.length aj,.slice ak ac.length al],.int .i64 a1,.agg #[.int .i64 1,.func (.func 56) #[] #[],.func (.func 57) #[] #[],.func (.func 59) #[] #[]]] (by rfl) rfl rfl ar ?_;with_reducible refine (iI.calls k ae af _ _ ab _ _ ac a1 aJ aK _ ?aE ?aF ?aG ?aH A4.out).mono ?_
 (case aE=>exact kc (Kd.iA az.out HB.out))
 (case aF=>exact aA.out)
 (case aG=>exact kc (Kd.iA aB.out HB.out))
 (case aH=>exact aC.out)
 rintro e w8 ⟨rfl,hb⟩;refine ⟨_,rfl,?_⟩;replace aa:=xk aa hb;replace HB:=xb1 HB ao hb;(try clear hb);refine hK.out _ _ ⟨bc aa.out 0,bc aa.out 1,bc aa.out 2,bc aa.out 3⟩ (fun hHeld => ?_);clear hK K;refine nx 9 ?_;refine px 4 10 (rs true [5,3]) ah.out ?_;refine px 5 11 (rs true [6,2]) ah.out ?_;refine px 6 4 (rs true [7,1]) ah.out ?_;refine px 7 5 (rs true [8]) ah.out ?_;refine mU (kI ah.out (by kernel_rfl)) ?_;try go_wp2
 go_ret2
 exact ⟨rt,bl1 HB.out ao.out⟩
def mR.f (aa:Int) (ab:Int) (a1:Int):Option (Int):=if ab<a1 then (some (-1)) else (if aa>a1 then (some 1) else (some 0))
set_option maxHeartbeats 8000000 in
set_option maxRecDepth 100000 in
theorem mR.calls (aa:Int) (ac:Int) (a1:Int) (r:Int) (w:World) (h:mR.f aa ac a1=some r) :
 Calls Tryz.prog 52 #[.agg #[.int .i64 aa,.int .i64 ac],.int .i64 a1] w fun e w'=>e=.returned (.int .i64 r)∧Below w.heap.size w w':=by
 have aB:=Tryz.underlying38;have HB:=am (Below.refl w.heap.size w);have H:(if ac<a1 then (some (-1)) else (if aa>a1 then (some 1) else (some 0)))=some r:=h;clear h;by_cases c3:ac<a1
 ·rw [if_pos c3] at H
  have ai:=decide_eq_true c3;clear c3;obtain rfl:=Option.some.inj H;go_enter Tryz.func52,Tryz.ntmps52;go_wp2_with (first | ((with_reducible refine iC (N:=2) rfl ?_);refine bx 2 38 #[.int .i64 aa,.int .i64 ac] ?_;intro ae hg w4 ab hb;have af:=am (ab);have ag:=am ((bz hg HB.out:w.heap.size≤ae));have ah:=ag;replace HB:=xb HB hb;clear hb ab hg;obtain ⟨aq,au,av,aw⟩:=b2 af.out));go_ret;exact ⟨rt,bl1 HB.out ah.out⟩
 ·rw [if_neg c3] at H
  have ai:=decide_eq_false c3;clear c3;by_cases c6:aa>a1
  ·rw [if_pos c6] at H
   have aj:decide (a1<aa)=true:=decide_eq_true c6;clear c6;obtain rfl:=Option.some.inj H;go_enter Tryz.func52,Tryz.ntmps52;go_wp2_with (first | ((with_reducible refine iC (N:=2) rfl ?_);refine bx 2 38 #[.int .i64 aa,.int .i64 ac] ?_;intro ae hg w7 ab hb;have af:=am (ab);have ag:=am ((bz hg HB.out:w.heap.size≤ae));have ah:=ag;replace HB:=xb HB hb;clear hb ab hg;obtain ⟨ax,ay,az,aA⟩:=b2 af.out));go_ret;exact ⟨rt,bl1 HB.out ah.out⟩
  ·rw [if_neg c6] at H
   have aj:decide (a1<aa)=false:=decide_eq_false c6;clear c6;obtain rfl:=Option.some.inj H;go_enter Tryz.func52,Tryz.ntmps52;go_wp2_with (first | ((with_reducible refine iC (N:=2) rfl ?_);refine bx 2 38 #[.int .i64 aa,.int .i64 ac] ?_;intro ae hg w9 ab hb;have af:=am (ab);have ag:=am ((bz hg HB.out:w.heap.size≤ae));have ah:=ag;replace HB:=xb HB hb;clear hb ab hg;obtain ⟨ak,al,ao,ap⟩:=b2 af.out));go_ret;exact ⟨rt,bl1 HB.out ah.out⟩
def gY.l0:Nat→List (S38)→Int→Int→Int→Int→Option (Int × Bool)
 | 0,_,_,_,_,_=>none
 | k+1,x0,x1,x8,x9,x10=>if x9<x10 then (if 0≤(wrap64 ((IntKind.u64.wrap (wrap64 (x9+x10))) / 2)) then (if (wrap64 ((IntKind.u64.wrap (wrap64 (x9+x10))) / 2))<(x0.length:Int) then ((mR.f ((gN x0 (wrap64 ((IntKind.u64.wrap (wrap64 (x9+x10))) / 2))).f0) ((gN x0 (wrap64 ((IntKind.u64.wrap (wrap64 (x9+x10))) / 2))).f1) x1).bind fun aa=>(if aa<0 then (gY.l0 k x0 x1 x8 (wrap64 ((wrap64 ((IntKind.u64.wrap (wrap64 (x9+x10))) / 2))+1)) x10) else (gY.l0 k x0 x1 x8 x9 (wrap64 ((IntKind.u64.wrap (wrap64 (x9+x10))) / 2))))) else (none)) else (none)) else (if x9<x8 then (if 0≤x9 then (if x9<(x0.length:Int) then ((mR.f ((gN x0 x9).f0) ((gN x0 x9).f1) x1).bind fun ab=>(some (x9,(ab==0)))) else (none)) else (none)) else (some (x9,false)))
def gY.f (k:Nat) (l0:List (S38)) (a1:Int)  : Option (Int × Bool):=gY.l0 k l0 a1 (l0.length:Int) 0 (l0.length:Int)
theorem gY.kT:∀ k,(∀ y0 y1 y2 y3 y4,LeO (gY.l0 k y0 y1 y2 y3 y4) (gY.l0 (k+1) y0 y1 y2 y3 y4))
 | 0=>fun _ _ _ _ _ r h=>by simp [gY.l0] at h
 | k+1=>by
  have aa:=gY.kT k
  ·intro y0 y1 y2 y3 y4
   unfold gY.l0;exact mo (an aa trivial)
theorem gY.mono:∀ a0 a1 k,LeO (gY.f k a0 a1) (gY.f (k+1) a0 a1):=by
 intro a0 a1 k;have aa:=gY.kT k;unfold gY.f;exact mo (an aa trivial)
set_option maxHeartbeats 8000000 in
set_option maxRecDepth 100000 in
theorem gY.calls (k:Nat) (A0:Option Addr) (c0:Nat) (l0:List (S38)) (a1:Int)  (r1:Int) (r2:Bool) (w:World) (hr0:Kd.C k38 w A0 l0.length l0) (hc0:l0.length≤c0) (h:gY.f k l0 a1=some (r1,r2)) :
 Calls Tryz.prog 51 #[.slice A0 l0.length c0,.int .i64 a1,.func (.func 52) #[] #[]] w fun e w'=>e=.returned (.tuple #[.int .i64 r1,.bool r2])∧Below w.heap.size w w':=by
 have aJ:=Tryz.underlying38;have av:=am hr0;have aM:=am hc0;clear hr0 hc0;have HB:=am (Below.refl w.heap.size w);have H:(gY.l0 k l0 a1 (l0.length:Int) 0 (l0.length:Int))=some (r1,r2):=h;clear h;have H':=am H;clear H;go_enter Tryz.func51,Tryz.ntmps51;go_wp2;go_loopg [9,10] k (fun kq v9 v10 w'=>∃ (aa:Int) (ac:Int),v9=.int .i64 aa∧v10=.int .i64 ac∧gL (gY.l0 kq l0 a1 (l0.length:Int) aa ac=some (r1,r2))∧gL (kq≤k)∧gL (Below w.heap.size w w'))
 case atStart=>exact ⟨(0),((l0.length:Int)),sm,sm,H',⟨Nat.le_refl _⟩,⟨bl HB.out⟩⟩
 case round =>
  clear H';obtain ⟨aa,ac,rfl,rfl,HA,au,HB⟩:=hrel;cases gk with
  | zero=>exact absurd HA.out (by simp [gY.l0])
  | succ k1 =>
   have H:=HA.out;clear HA;simp only [gY.l0] at H;by_cases c4:aa<ac
   ·rw [if_pos c4] at H
    have aA:=decide_eq_true c4;clear c4;obtain ⟨ab,ai⟩:∃ j_:Int,(wrap64 ((IntKind.u64.wrap (wrap64 (aa+ac))) / 2))=j_:=⟨_,rfl⟩;replace H:(if 0≤(ab) then (if (ab)<(l0.length:Int) then ((mR.f ((gN l0 (ab)).f0) ((gN l0 (ab)).f1) a1).bind fun aj=>(if aj<0 then (gY.l0 k1 l0 a1 (l0.length:Int) (wrap64 ((ab)+1)) ac) else (gY.l0 k1 l0 a1 (l0.length:Int) aa ab))) else (none)) else (none))=some (r1,r2):=by first | (rw [ai] at H;exact H) | (simp only [ai] at H ⊢;exact H)
    have aF:(IntKind.i64.wrap ((IntKind.u64.wrap (wrap64 (aa+ac))) / 2))=ab:=(nA _).trans ai;by_cases c6:0≤(ab)
    case neg=>rw [if_neg c6] at H;exact absurd H (by simp)
    rw [if_pos c6] at H;have aK:=decide_eq_true c6;clear c6;by_cases c7:(ab)<(l0.length:Int)
    case neg=>rw [if_neg c7] at H;exact absurd H (by simp)
    rw [if_pos c7] at H;have aL:=decide_eq_true c7;clear c7;replace H:=Option.bind_eq_some_iff.mp H;obtain ⟨aj,az,H⟩:=H;try dsimp only at H
    have A8:=am az;clear az;by_cases c9:aj<0
    ·rw [if_pos c9] at H
     have aB:=decide_eq_true c9;clear c9;have H':=am H;clear H;have ag:0≤((ab):Int):=of_decide_eq_true asm;have ah:(ab)<(l0.length:Int):=of_decide_eq_true asm;obtain ⟨ax,ao,ae,af⟩:=j5 av.out (ab) ag ah;cases ao;replace ae:=xc HB ae;replace af:=xc HB af;replace ag:=eq_true ag;replace ah:=eq_true ah;go_wp2_with (first | (go_at_call 52;(with_reducible refine (mR.calls ((gN l0 (ab)).f0) ((gN l0 (ab)).f1) a1 aj _ A8.out).mono ?_);rintro e aN ⟨rfl,hb⟩;replace HB:=xb HB hb;(try clear hb)));go_roundg k1
     case measure=>have:=au.out;omega
     case rel=>exact ⟨(wrap64 ((ab)+1)),(ac),(by first | rfl | (simp;done) | (simp only [← ai] <;> (first | rfl | simp)) | (simp [*];done)),sm,H',⟨by have:=au.out;omega⟩,⟨bl HB.out⟩⟩
    ·rw [if_neg c9] at H
     have aB:=decide_eq_false c9;clear c9;have H':=am H;clear H;have ag:0≤((ab):Int):=of_decide_eq_true asm;have ah:(ab)<(l0.length:Int):=of_decide_eq_true asm;obtain ⟨ax,ao,ae,af⟩:=j5 av.out (ab) ag ah;cases ao;replace ae:=xc HB ae;replace af:=xc HB af;replace ag:=eq_true ag;replace ah:=eq_true ah;go_wp2_with (first | (go_at_call 52;(with_reducible refine (mR.calls ((gN l0 (ab)).f0) ((gN l0 (ab)).f1) a1 aj _ A8.out).mono ?_);rintro e aO ⟨rfl,hb⟩;replace HB:=xb HB hb;(try clear hb)));go_roundg k1
     case measure=>have:=au.out;omega
     case rel=>exact ⟨(aa),(ab),sm,(by first | rfl | (simp;done) | (simp only [← ai] <;> (first | rfl | simp)) | (simp [*];done)),H',⟨by have:=au.out;omega⟩,⟨bl HB.out⟩⟩
   ·rw [if_neg c4] at H
    have aA:=decide_eq_false c4;clear c4;by_cases c12:aa<(l0.length:Int)
    ·rw [if_pos c12] at H
     have ay:=decide_eq_true c12;clear c12;by_cases c13:0≤aa
     case neg=>rw [if_neg c13] at H;exact absurd H (by simp)
     rw [if_pos c13] at H;have aG:=decide_eq_true c13;clear c13;by_cases c14:aa<(l0.length:Int)
     case neg=>rw [if_neg c14] at H;exact absurd H (by simp)
     rw [if_pos c14] at H;have aH:=decide_eq_true c14;clear c14;replace H:=Option.bind_eq_some_iff.mp H;obtain ⟨aC,aw,H⟩:=H;try dsimp only at H
     have aE:=am aw;clear aw;simp only [Option.some.injEq,Prod.mk.injEq] at H;obtain ⟨rfl,rfl⟩:=H;have ap:0≤(aa:Int):=of_decide_eq_true asm;have aq:aa<(l0.length:Int):=of_decide_eq_true asm;obtain ⟨aI,aD,ak,al⟩:=j5 av.out aa ap aq;cases aD;replace ak:=xc HB ak;replace al:=xc HB al;replace ap:=eq_true ap;replace aq:=eq_true aq;go_wp2_with (first | (go_at_call 52;(with_reducible refine (mR.calls ((gN l0 aa).f0) ((gN l0 aa).f1) a1 aC _ aE.out).mono ?_);rintro e w16 ⟨rfl,hb⟩;replace HB:=xb HB hb;(try clear hb)));go_ret2;exact ⟨rt,bl HB.out⟩
    ·rw [if_neg c12] at H
     have ay:=decide_eq_false c12;clear c12;simp only [Option.some.injEq,Prod.mk.injEq] at H;obtain ⟨rfl,rfl⟩:=H;go_wp2;go_ret2;exact ⟨rt,bl HB.out⟩
def mX.f (k:Nat) (l0:List (S38)) (a1:Int):Option (Bool):=(gY.f k l0 a1).bind fun aa=>(if aa.2=true then (some (decide (aa.1<(l0.length:Int)))) else (some false))
theorem mX.mono:∀ a0 a1 k,LeO (mX.f k a0 a1) (mX.f (k+1) a0 a1):=by
 intro a0 a1 k;unfold mX.f;exact mo (an gY.mono trivial)
set_option maxHeartbeats 8000000 in
set_option maxRecDepth 100000 in
theorem mX.calls (k:Nat) (A0:Option Addr) (c0:Nat) (l0:List (S38)) (a1:Int) (r:Bool) (w:World) (hr0:Kd.C k38 w A0 l0.length l0) (hc0:l0.length≤c0) (h:mX.f k l0 a1=some r) :
 Calls Tryz.prog 26 #[.slice A0 l0.length c0,.int .i64 a1] w fun e w'=>e=.returned (.bool r)∧Below w.heap.size w w':=by
 have af:=am hr0;have ag:=am hc0;clear hr0 hc0;have HB:=am (Below.refl w.heap.size w);have H:((gY.f k l0 a1).bind fun ae=>(if ae.2=true then (some (decide (ae.1<(l0.length:Int)))) else (some false)))=some r:=h;clear h;replace H:=Option.bind_eq_some_iff.mp H;obtain ⟨⟨ac,ah⟩,A30,H⟩:=H;try dsimp only at H
 have A3:=am A30;clear A30;by_cases c4:ah=true
 ·subst c4
  have H1:(some (decide (ac<(l0.length:Int))))=some r:=by rw [if_pos rfl] at H;exact H
  clear H;have H:=H1;clear H1;obtain rfl:=Option.some.inj H;go_enter Tryz.func26,Tryz.ntmps26;go_wp2_with (first | ((with_reducible refine gP (f:=51) rfl ?_);refine gl 10 Tryz.func51 #[.slice A0 l0.length c0,.int .i64 a1,.func (.func 52) #[] #[]] ?_;(with_reducible refine (gY.calls k _ _ l0 a1 ac true _ ?aa ?ab A3.out).mono ?_);(case aa=>exact kc af.out);(case ab=>exact ag.out);rintro e w5 ⟨rfl,hb⟩;refine ⟨_,rfl,?_⟩;replace HB:=xb HB hb;(try clear hb)));go_ret;exact ⟨rt,bl HB.out⟩
 ·replace c4:=Bool.eq_false_iff.mpr c4
  subst c4;have H1:(some false)=some r:=by rw [if_neg (show ¬ (false=true) by decide)] at H;exact H
  clear H;have H:=H1;clear H1;obtain rfl:=Option.some.inj H;go_enter Tryz.func26,Tryz.ntmps26;go_wp2_with (first | ((with_reducible refine gP (f:=51) rfl ?_);refine gl 10 Tryz.func51 #[.slice A0 l0.length c0,.int .i64 a1,.func (.func 52) #[] #[]] ?_;(with_reducible refine (gY.calls k _ _ l0 a1 ac false _ ?aa ?ab A3.out).mono ?_);(case aa=>exact kc af.out);(case ab=>exact ag.out);rintro e w6 ⟨rfl,hb⟩;refine ⟨_,rfl,?_⟩;replace HB:=xb HB hb;(try clear hb)));go_ret;exact ⟨rt,bl HB.out⟩
def lQ.f (k:Nat) (ab:Int) (ac:Int) (ae:List (List (S38))) (af:List (S50)) (a1:Int):Option (Int × Bool):=(jv.f k ab ac ae af a1).bind fun aa=>(if aa.2=true then ((kC.f k ab ac ae af aa.1).bind fun ag=>((mX.f k ag.1 a1).bind fun ah=>(if ah=true then (some (aa.1,true)) else (some (0,false))))) else (some (0,false)))
theorem lQ.mono:∀ a0 a1 a2 a3 a4 k,LeO (lQ.f k a0 a1 a2 a3 a4) (lQ.f (k+1) a0 a1 a2 a3 a4):=by
 intro a0 a1 a2 a3 a4 k;unfold lQ.f;exact mo (an jv.mono (an kC.mono (an mX.mono trivial)))
set_option maxHeartbeats 8000000 in
set_option maxRecDepth 100000 in
theorem lQ.calls (k:Nat) (ae:Int) (af:Int) (ao:Option Addr) (ap:Nat) (ab:List (List (S38))) (aq:Option Addr) (au:Nat) (ac:List (S50)) (a1:Int) (r1:Int) (r2:Bool) (w:World) (aH:Kd.C (Kd.slice 38 k38) w ao ab.length ab) (aI:ab.length≤ap) (aJ:Kd.C k50 w aq ac.length ac) (aK:ac.length≤au) (h:lQ.f k ae af ab ac a1=some (r1,r2)) :
 Calls Tryz.prog 8 #[.agg #[.int .i64 ae,.int .i64 af,.slice ao ab.length ap,.slice aq ac.length au],.int .i64 a1] w fun e w'=>e=.returned (.tuple #[.int .i64 r1,.bool r2])∧Below w.heap.size w w':=by
 have bG:=Tryz.underlying25;have ax:=am aH;have ay:=am aI;clear aH aI;have az:=am aJ;have aA:=am aK;clear aJ aK;have HB:=am (Below.refl w.heap.size w);have H:((jv.f k ae af ab ac a1).bind fun aF=>(if aF.2=true then ((kC.f k ae af ab ac aF.1).bind fun aG=>((mX.f k aG.1 a1).bind fun aE=>(if aE=true then (some (aF.1,true)) else (some (0,false))))) else (some (0,false))))=some (r1,r2):=h;clear h;replace H:=Option.bind_eq_some_iff.mp H;obtain ⟨⟨av,aN⟩,A30,H⟩:=H;try dsimp only at H
 have A3:=am A30;clear A30;by_cases c4:aN=true
 ·subst c4
  have H1:((kC.f k ae af ab ac av).bind fun aG=>((mX.f k aG.1 a1).bind fun aE=>(if aE=true then (some (av,true)) else (some (0,false)))))=some (r1,r2):=by rw [if_pos rfl] at H;exact H
  clear H;have H:=H1;clear H1;replace H:=Option.bind_eq_some_iff.mp H;obtain ⟨⟨aD,aL⟩,A50,H⟩:=H;try dsimp only at H
  have A5:=am A50;clear A50;replace H:=Option.bind_eq_some_iff.mp H;obtain ⟨aE,aM,H⟩:=H;try dsimp only at H
  have A6:=am aM;clear aM;by_cases c7:aE=true
  ·subst c7
   have H1:(some (av,true))=some (r1,r2):=by rw [if_pos rfl] at H;exact H
   clear H;have H:=H1;clear H1;simp only [Option.some.injEq,Prod.mk.injEq] at H;obtain ⟨rfl,rfl⟩:=H;go_enter Tryz.func8,Tryz.ntmps8
   go_wp2_with (first | ((with_reducible refine iC (N:=2) rfl ?_);refine bx 2 25 #[.int .i64 ae,.int .i64 af,.slice ao ab.length ap,.slice aq ac.length au] ?_;intro aB hg w8 aw hb;have aa:=am (aw);have aC:=am ((bz hg HB.out:w.heap.size≤aB));have ag:=aC;replace HB:=xb HB hb;clear hb aw hg;obtain ⟨bv,bw,bA,bB,bC,bD,bE,bF⟩:=b4 aa.out) | ((with_reducible refine gP (f:=10) rfl ?_);refine gl 13 Tryz.func10 #[.agg #[.int .i64 ae,.int .i64 af,.slice ao ab.length ap,.slice aq ac.length au],.int .i64 a1] ?_;(with_reducible refine (jv.calls k ae af _ _ ab _ _ ac a1 av true _ ?ah ?ai ?ak ?al A3.out).mono ?_);(case ah=>exact kc (Kd.iA ax.out HB.out));(case ai=>exact ay.out);(case ak=>exact kc (Kd.iA az.out HB.out));(case al=>exact aA.out);rintro e bH ⟨rfl,hb⟩;refine ⟨_,rfl,?_⟩;replace aa:=xk aa hb;replace HB:=xb1 HB ag hb;(try clear hb);obtain ⟨aV,aW,aX,aY,aZ,a0,a2,a3⟩:=b4 aa.out) | ((with_reducible refine gP (f:=25) rfl ?_);refine gl 21 Tryz.func25 #[.agg #[.int .i64 ae,.int .i64 af,.slice ao ab.length ap,.slice aq ac.length au],.int .i64 av] ?_;(with_reducible refine (kC.calls k ae af _ _ ab _ _ ac av aD aL _ ?ah ?ai ?ak ?al A5.out).mono ?_);(case ah=>exact kc (Kd.iA ax.out HB.out));(case ai=>exact ay.out);(case ak=>exact kc (Kd.iA az.out HB.out));(case al=>exact aA.out);rintro e bI ⟨aO,rfl,ho0,hb⟩;refine ⟨_,rfl,?_⟩;have aj:=am (Kd.kE ho0 (iL (bl1 HB.out ag.out)));replace aa:=xk aa hb;replace HB:=xb1 HB ag hb;(try clear hb);(try clear ho0);obtain ⟨aP,aQ,aR⟩:=Kd.jT aj.out;subst aR) | ((with_reducible refine gP (f:=26) rfl ?_);refine gl 26 Tryz.func26 #[.slice aP aD.length aQ,.int .i64 a1] ?_;(with_reducible refine (mX.calls k _ _ aD a1 true _ ?ah ?ai A6.out).mono ?_);(case ah=>exact kc (Kd.iG aj.out).2.2);(case ai=>exact (Kd.iG aj.out).2.1);rintro e bJ ⟨rfl,hb⟩;refine ⟨_,rfl,?_⟩;replace aj:=xr aj hb;replace aa:=xk aa hb;replace HB:=xb1 HB ag hb;(try clear hb)))
   go_ret2
   exact ⟨rt,bl1 HB.out ag.out⟩
  ·replace c7:=Bool.eq_false_iff.mpr c7
   subst c7;have H1:(some (0,false))=some (r1,r2):=by rw [if_neg (show ¬ (false=true) by decide)] at H;exact H
   clear H;have H:=H1;clear H1;simp only [Option.some.injEq,Prod.mk.injEq] at H;obtain ⟨rfl,rfl⟩:=H;go_enter Tryz.func8,Tryz.ntmps8
   go_wp2_with (first | ((with_reducible refine iC (N:=2) rfl ?_);refine bx 2 25 #[.int .i64 ae,.int .i64 af,.slice ao ab.length ap,.slice aq ac.length au] ?_;intro aB hg bK aw hb;have aa:=am (aw);have aC:=am ((bz hg HB.out:w.heap.size≤aB));have ag:=aC;replace HB:=xb HB hb;clear hb aw hg;obtain ⟨a4,a5,a6,a7,a8,a9,ba,bb⟩:=b4 aa.out) | ((with_reducible refine gP (f:=10) rfl ?_);refine gl 13 Tryz.func10 #[.agg #[.int .i64 ae,.int .i64 af,.slice ao ab.length ap,.slice aq ac.length au],.int .i64 a1] ?_;(with_reducible refine (jv.calls k ae af _ _ ab _ _ ac a1 av true _ ?ah ?ai ?ak ?al A3.out).mono ?_);(case ah=>exact kc (Kd.iA ax.out HB.out));(case ai=>exact ay.out);(case ak=>exact kc (Kd.iA az.out HB.out));(case al=>exact aA.out);rintro e bL ⟨rfl,hb⟩;refine ⟨_,rfl,?_⟩;replace aa:=xk aa hb;replace HB:=xb1 HB ag hb;(try clear hb);obtain ⟨bd,be,bf,bg,bh,bi,bj,bk⟩:=b4 aa.out) | ((with_reducible refine gP (f:=25) rfl ?_);refine gl 21 Tryz.func25 #[.agg #[.int .i64 ae,.int .i64 af,.slice ao ab.length ap,.slice aq ac.length au],.int .i64 av] ?_;(with_reducible refine (kC.calls k ae af _ _ ab _ _ ac av aD aL _ ?ah ?ai ?ak ?al A5.out).mono ?_);(case ah=>exact kc (Kd.iA ax.out HB.out));(case ai=>exact ay.out);(case ak=>exact kc (Kd.iA az.out HB.out));(case al=>exact aA.out);rintro e bM ⟨aO,rfl,ho0,hb⟩;refine ⟨_,rfl,?_⟩;have aj:=am (Kd.kE ho0 (iL (bl1 HB.out ag.out)));replace aa:=xk aa hb;replace HB:=xb1 HB ag hb;(try clear hb);(try clear ho0);obtain ⟨aS,aT,aU⟩:=Kd.jT aj.out;subst aU) | ((with_reducible refine gP (f:=26) rfl ?_);refine gl 26 Tryz.func26 #[.slice aS aD.length aT,.int .i64 a1] ?_;(with_reducible refine (mX.calls k _ _ aD a1 false _ ?ah ?ai A6.out).mono ?_);(case ah=>exact kc (Kd.iG aj.out).2.2);(case ai=>exact (Kd.iG aj.out).2.1);rintro e bN ⟨rfl,hb⟩;refine ⟨_,rfl,?_⟩;replace aj:=xr aj hb;replace aa:=xk aa hb;replace HB:=xb1 HB ag hb;(try clear hb)))
   go_ret2
   exact ⟨rt,bl1 HB.out ag.out⟩
 ·replace c4:=Bool.eq_false_iff.mpr c4
  subst c4;have H1:(some (0,false))=some (r1,r2):=by rw [if_neg (show ¬ (false=true) by decide)] at H;exact H
  clear H;have H:=H1;clear H1;simp only [Option.some.injEq,Prod.mk.injEq] at H;obtain ⟨rfl,rfl⟩:=H;go_enter Tryz.func8,Tryz.ntmps8;go_wp2_with (first | ((with_reducible refine iC (N:=2) rfl ?_);refine bx 2 25 #[.int .i64 ae,.int .i64 af,.slice ao ab.length ap,.slice aq ac.length au] ?_;intro aB hg bO aw hb;have aa:=am (aw);have aC:=am ((bz hg HB.out:w.heap.size≤aB));have ag:=aC;replace HB:=xb HB hb;clear hb aw hg;obtain ⟨bm,bn,bo,bp,bq,br,bs,bu⟩:=b4 aa.out) | ((with_reducible refine gP (f:=10) rfl ?_);refine gl 13 Tryz.func10 #[.agg #[.int .i64 ae,.int .i64 af,.slice ao ab.length ap,.slice aq ac.length au],.int .i64 a1] ?_;(with_reducible refine (jv.calls k ae af _ _ ab _ _ ac a1 av false _ ?ah ?ai ?ak ?al A3.out).mono ?_);(case ah=>exact kc (Kd.iA ax.out HB.out));(case ai=>exact ay.out);(case ak=>exact kc (Kd.iA az.out HB.out));(case al=>exact aA.out);rintro e bP ⟨rfl,hb⟩;refine ⟨_,rfl,?_⟩;replace aa:=xk aa hb;replace HB:=xb1 HB ag hb;(try clear hb)));go_ret2;exact ⟨rt,bl1 HB.out ag.out⟩
def l7.f (aa:Int) (ab:Int) (a1:Int):Option (Bool):=some (decide (aa≤a1))
set_option maxHeartbeats 8000000 in
set_option maxRecDepth 100000 in
theorem l7.calls (aa:Int) (ab:Int) (a1:Int) (r:Bool) (w:World) (h:l7.f aa ab a1=some r) :
 Calls Tryz.prog 62 #[.agg #[.int .i64 aa,.int .i64 ab],.int .i64 a1] w fun e w'=>e=.returned (.bool r)∧Below w.heap.size w w':=by
 have ao:=Tryz.underlying38;have HB:=am (Below.refl w.heap.size w);have H:(some (decide (aa≤a1)))=some r:=h;clear h;obtain rfl:=Option.some.inj H;go_enter Tryz.func62,Tryz.ntmps62;go_wp2_with (first | ((with_reducible refine iC (N:=2) rfl ?_);refine bx 2 38 #[.int .i64 aa,.int .i64 ab] ?_;intro ae hg w3 ac hb;have af:=am (ac);have ag:=am ((bz hg HB.out:w.heap.size≤ae));have ah:=ag;replace HB:=xb HB hb;clear hb ac hg;obtain ⟨ai,aj,ak,al⟩:=b2 af.out));go_ret;exact ⟨rt,bl1 HB.out ah.out⟩
end Go.Proofs.YtmbmalkpmanaaaaGreat.P
