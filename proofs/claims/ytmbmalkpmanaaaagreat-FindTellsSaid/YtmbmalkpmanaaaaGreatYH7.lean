/- Lemmas for laws of chapter 7: what the functions that they reach compute. No condition of its own. -/
import Derived.Test.YtmbmalkpmanaaaaGreatYH4
import Derived.Test.YtmbmalkpmanaaaaGreatYH2
import Derived.Test.YtmbmalkpmanaaaaGreatYH6
import Derived.Test.YtmbmalkpmanaaaaGreatYH5
import Derived.Laws.EntriesVeiled
import Derived.WalkSpells
import Derived.Outline
namespace Go.Proofs.YtmbmalkpmanaaaaGreat.P
open Go.RowKit Go.Proofs.YtmbmalkpmanaaaaGreatW.iD Go.Proofs.YtmbmalkpmanaaaaGreatW.jA Go.Proofs.YtmbmalkpmanaaaaGreatW.jw
attribute [local go_sem] lS lT mG mH kU kV lU lV   -- for this text's walks alone
set_option linter.unusedVariables false
set_option linter.unusedSimpArgs false
mutual
def iB.j0:Nat→Int→Int→Bool→Int→Int→List (List (S38))→List (S50)→Option (Int × Bool)
 | 0,_,_,_,_,_,_,_=>none
 | k+1,x2,x8,x24,x192000,x192001,x192002,x192003=>if x24=true then (iB.j1 k x2 (wrap64 (x8 - 1)) x192000 x192001 x192002 x192003) else (iB.j1 k x2 x8 x192000 x192001 x192002 x192003)
def iB.j1:Nat→Int→Int→Int→Int→List (List (S38))→List (S50)→Option (Int × Bool)
 | 0,_,_,_,_,_,_=>none
 | k+1,x2,x8,x192000,x192001,x192002,x192003=>iB.l0 k x2 x8 x192000 x192001 x192002 x192003
def iB.l0:Nat→Int→Int→Int→Int→List (List (S38))→List (S50)→Option (Int × Bool)
 | 0,_,_,_,_,_,_=>none
 | k+1,x2,x8,x192000,x192001,x192002,x192003=>if x8≥0 then (iB.j3 k x2 x8 (decide (x8<(x192003.length:Int))) x192000 x192001 x192002 x192003) else (iB.j3 k x2 x8 false x192000 x192001 x192002 x192003)
def iB.j3:Nat→Int→Int→Bool→Int→Int→List (List (S38))→List (S50)→Option (Int × Bool)
 | 0,_,_,_,_,_,_,_=>none
 | k+1,x2,x8,x35,x192000,x192001,x192002,x192003=>if x35=true then (if 0≤x8 then (if x8<(x192003.length:Int) then (if (((gW x192003 x8).f1).length:Int)>0 then (some ((gW x192003 x8).f0,true)) else (iB.l0 k x2 (wrap64 (x8+x2)) x192000 x192001 x192002 x192003)) else (none)) else (none)) else (some (0,false))
def iB.l1:Nat→Int→Int→Int→Int→List (List (S38))→List (S50)→Option (Int × Bool)
 | 0,_,_,_,_,_,_=>none
 | k+1,x2,x10,x192000,x192001,x192002,x192003=>(kH.f x10).bind fun aa=>(if aa=true then ((kW.f k x192000 x192001 x192002 x192003 x10).bind fun t198=>(if t198=true then (some (x10,true)) else (iB.l1 k x2 (wrap64 (x10+x2)) x192000 x192001 x192002 x192003))) else (some (0,false)))
end
def iB.f (k:Nat) (aa:Int) (ab:Int) (ac:List (List (S38))) (ae:List (S50)) (a1:Int) (a2:Int):Option (Int × Bool):=(lW.f k aa ab ac ae).bind fun ag=>(if ag=true then ((lG.f k aa ab ac ae a1).bind fun af=>(if a2<0 then (iB.j0 k a2 af.1 (!af.2) aa ab ac ae) else (iB.j0 k a2 af.1 false aa ab ac ae))) else (iB.l1 k a2 a1 aa ab ac ae))
theorem iB.kT:∀ k,(∀ y0 y1 y2 y3 y4 y5 y6,LeO (iB.j0 k y0 y1 y2 y3 y4 y5 y6) (iB.j0 (k+1) y0 y1 y2 y3 y4 y5 y6))∧(∀ y0 y1 y2 y3 y4 y5,LeO (iB.j1 k y0 y1 y2 y3 y4 y5) (iB.j1 (k+1) y0 y1 y2 y3 y4 y5))∧(∀ y0 y1 y2 y3 y4 y5,LeO (iB.l0 k y0 y1 y2 y3 y4 y5) (iB.l0 (k+1) y0 y1 y2 y3 y4 y5))∧(∀ y0 y1 y2 y3 y4 y5 y6,LeO (iB.j3 k y0 y1 y2 y3 y4 y5 y6) (iB.j3 (k+1) y0 y1 y2 y3 y4 y5 y6))∧(∀ y0 y1 y2 y3 y4 y5,LeO (iB.l1 k y0 y1 y2 y3 y4 y5) (iB.l1 (k+1) y0 y1 y2 y3 y4 y5))
 | 0=>⟨fun _ _ _ _ _ _ _ r h=>by simp [iB.j0] at h,fun _ _ _ _ _ _ r h=>by simp [iB.j1] at h,fun _ _ _ _ _ _ r h=>by simp [iB.l0] at h,fun _ _ _ _ _ _ _ r h=>by simp [iB.j3] at h,fun _ _ _ _ _ _ r h=>by simp [iB.l1] at h⟩
 | k+1=>by
  obtain ⟨aa,ih1,ih2,ih3,ih4⟩:=iB.kT k;refine ⟨?_,?_,?_,?_,?_⟩
  ·intro y0 y1 y2 y3 y4 y5 y6
   unfold iB.j0;exact mo (an aa (an ih1 (an ih2 (an ih3 (an ih4 (an lW.mono (an lG.mono (an kW.mono trivial))))))))
  ·intro y0 y1 y2 y3 y4 y5
   unfold iB.j1;exact mo (an aa (an ih1 (an ih2 (an ih3 (an ih4 (an lW.mono (an lG.mono (an kW.mono trivial))))))))
  ·intro y0 y1 y2 y3 y4 y5
   unfold iB.l0;exact mo (an aa (an ih1 (an ih2 (an ih3 (an ih4 (an lW.mono (an lG.mono (an kW.mono trivial))))))))
  ·intro y0 y1 y2 y3 y4 y5 y6
   unfold iB.j3;exact mo (an aa (an ih1 (an ih2 (an ih3 (an ih4 (an lW.mono (an lG.mono (an kW.mono trivial))))))))
  ·intro y0 y1 y2 y3 y4 y5
   unfold iB.l1;exact mo (an aa (an ih1 (an ih2 (an ih3 (an ih4 (an lW.mono (an lG.mono (an kW.mono trivial))))))))
theorem iB.mono:∀ a0 a1 a2 a3 a4 a5 k,LeO (iB.f k a0 a1 a2 a3 a4 a5) (iB.f (k+1) a0 a1 a2 a3 a4 a5):=by
 intro a0 a1 a2 a3 a4 a5 k;obtain ⟨aa,ih1,ih2,ih3,ih4⟩:=iB.kT k;unfold iB.f;exact mo (an aa (an ih1 (an ih2 (an ih3 (an ih4 (an lW.mono (an lG.mono (an kW.mono trivial))))))))
set_option maxHeartbeats 8000000 in
set_option maxRecDepth 100000 in
theorem iB.calls (k:Nat) (ae:Int) (af:Int) (aj:Option Addr) (ak:Nat) (ac:List (List (S38))) (al:Option Addr) (ao:Nat) (aa:List (S50)) (a1:Int) (a2:Int) (r1:Int) (r2:Bool) (w:World) (a3:Kd.C (Kd.slice 38 k38) w aj ac.length ac) (a4:ac.length≤ak) (a5:Kd.C k50 w al aa.length aa) (a6:aa.length≤ao) (h:iB.f k ae af ac aa a1 a2=some (r1,r2)) :
 Calls Tryz.prog 76 #[.agg #[.int .i64 ae,.int .i64 af,.slice aj ac.length ak,.slice al aa.length ao],.int .i64 a1,.int .i64 a2] w fun e w'=>e=.returned (.tuple #[.int .i64 r1,.bool r2])∧Below w.heap.size w w':=by
 have cP:=Tryz.underlying25;have aF:=am a3;have aG:=am a4;clear a3 a4;have ax:=am a5;have aH:=am a6;clear a5 a6;have HB:=am (Below.refl w.heap.size w);have H:((lW.f k ae af ac aa).bind fun aW=>(if aW=true then ((lG.f k ae af ac aa a1).bind fun aC=>(if a2<0 then (iB.j0 k a2 aC.1 (!aC.2) ae af ac aa) else (iB.j0 k a2 aC.1 false ae af ac aa))) else (iB.l1 k a2 a1 ae af ac aa)))=some (r1,r2):=h;clear h;replace H:=Option.bind_eq_some_iff.mp H;obtain ⟨aW,bR,H⟩:=H;try dsimp only at H
 have A4:=am bR;clear bR;by_cases c5:aW=true
 ·subst c5
  have H1:((lG.f k ae af ac aa a1).bind fun aC=>(if a2<0 then (iB.j0 k a2 aC.1 (!aC.2) ae af ac aa) else (iB.j0 k a2 aC.1 false ae af ac aa)))=some (r1,r2):=by rw [if_pos rfl] at H;exact H
  clear H;have H:=H1;clear H1;replace H:=Option.bind_eq_some_iff.mp H;obtain ⟨⟨t193,t194⟩,A60,H⟩:=H;try dsimp only at H
  have A6:=am A60;clear A60;have bv:=am H;clear H;go_enter Tryz.func76,Tryz.ntmps76;go_upto_region 3 with (first | ((with_reducible refine iC (N:=3) rfl ?_);(try (refine kL (by rfl) ?_;dsimp only));refine bx 3 25 #[.int .i64 ae,.int .i64 af,.slice aj ac.length ak,.slice al aa.length ao] ?_;intro ay hg w8 aO hb;have ab:=am (aO);have aU:=am ((bz hg HB.out:w.heap.size≤ay));have ag:=aU;replace HB:=xb HB hb;clear hb aO hg;obtain ⟨bw,bA,bB,bC,bD,bE,bF,bG⟩:=b4 ab.out) | ((with_reducible refine gP (f:=95) rfl ?_);refine gl 12 Tryz.func95 #[.agg #[.int .i64 ae,.int .i64 af,.slice aj ac.length ak,.slice al aa.length ao]] ?_;(with_reducible refine (lW.calls k ae af _ _ ac _ _ aa true _ ?ap ?aq ?au ?av A4.out).mono ?_);(case ap=>exact kc (Kd.iA aF.out HB.out));(case aq=>exact aG.out);(case au=>exact kc (Kd.iA ax.out HB.out));(case av=>exact aH.out);rintro e cQ ⟨rfl,hb⟩;refine ⟨_,rfl,?_⟩;replace ab:=xk ab hb;replace HB:=xb1 HB ag hb;(try clear hb);obtain ⟨ba,bb,bd,be,bf,bg,bh,bi⟩:=b4 ab.out) | ((with_reducible refine gP (f:=71) rfl ?_);refine gl 16 Tryz.func71 #[.agg #[.int .i64 ae,.int .i64 af,.slice aj ac.length ak,.slice al aa.length ao],.int .i64 a1] ?_;(with_reducible refine (lG.calls k ae af _ _ ac _ _ aa a1 t193 t194 _ ?ap ?aq ?au ?av A6.out).mono ?_);(case ap=>exact kc (Kd.iA aF.out HB.out));(case aq=>exact aG.out);(case au=>exact kc (Kd.iA ax.out HB.out));(case av=>exact aH.out);rintro e cR ⟨rfl,hb⟩;refine ⟨_,rfl,?_⟩;replace ab:=xk ab hb;replace HB:=xb1 HB ag hb;(try clear hb)))
  (try simp only [Act.put,List.setIfInBounds_toArray,List.set_cons_zero,List.set_cons_succ])
  go_cut [24] (fun v24 wc=>∃ (kq:Nat) (aM:Bool),v24=.bool aM∧gL (iB.j0 kq a2 t193 aM ae af ac aa=some (r1,r2))∧gL (kq≤k)∧gL (wc.heap[ay]? = some (.cells #[.int .i64 ae,.int .i64 af,(.slice aj ac.length ak),(.slice al aa.length ao)] 25 (0,0)))∧gL (Below w.heap.size w wc))
  case first =>
   have H:=bv.out;clear bv;by_cases c13:a2<0
   ·rw [if_pos c13] at H
    have aI:=decide_eq_true c13;clear c13;(first | rw [aI] | (simp only [nA,pF];rw [aI]) | skip);have H':=am H;clear H;go_wp2;go_meet
    case rel=>exact ⟨_,(!t194),sm,H',⟨by first | omega | exact Nat.le_refl _⟩,⟨kp ab.out⟩,⟨bl1 HB.out ag.out⟩⟩
   ·rw [if_neg c13] at H
    have aI:=decide_eq_false c13;clear c13;(first | rw [aI] | (simp only [nA,pF];rw [aI]) | skip);have H':=am H;clear H;go_wp2;go_meet
    case rel=>exact ⟨_,(false),sm,H',⟨by first | omega | exact Nat.le_refl _⟩,⟨kp ab.out⟩,⟨bl1 HB.out ag.out⟩⟩
  case rest =>
   clear bv;try clear c5
   try clear ba
   try clear bb
   try clear bd
   try clear be
   try clear bw
   try clear bA
   try clear bB
   try clear bC
   try clear bf
   try clear bg
   try clear bh
   try clear bi
   try clear bD
   try clear bE
   try clear bF
   try clear bG
   obtain ⟨kq,aM,rfl,HA,aP,ab,HB⟩:=hcut;cases kq with
   | zero=>exact absurd HA.out (by simp [iB.j0])
   | succ kj6 =>
    have H:=HA.out;clear HA;simp only [iB.j0] at H;have aX:=am H;clear H;go_upto_if 24 with (fail)
    go_cut [8] (fun v8 wc=>∃ (kq:Nat) (aN:Int),v8=.int .i64 aN∧gL (iB.j1 kq a2 aN ae af ac aa=some (r1,r2))∧gL (kq≤kj6)∧gL (wc.heap[ay]? = some (.cells #[.int .i64 ae,.int .i64 af,(.slice aj ac.length ak),(.slice al aa.length ao)] 25 (0,0)))∧gL (Below w.heap.size w wc))
    case first =>
     have H:=aX.out;clear aX;by_cases c15:aM=true
     ·subst c15
      have H1:(iB.j1 kj6 a2 (wrap64 (t193 - 1)) ae af ac aa)=some (r1,r2):=by rw [if_pos rfl] at H;exact H
      clear H;have H:=H1;clear H1;have H':=am H;clear H;go_wp2;go_meet
      case rel=>exact ⟨_,(wrap64 (t193 - 1)),sm,H',⟨by have:=aP.out;first | omega | exact Nat.le_refl _⟩,⟨kp ab.out⟩,⟨bl1 HB.out ag.out⟩⟩
     ·replace c15:=Bool.eq_false_iff.mpr c15
      subst c15;have H1:(iB.j1 kj6 a2 t193 ae af ac aa)=some (r1,r2):=by rw [if_neg (show ¬ (false=true) by decide)] at H;exact H
      clear H;have H:=H1;clear H1;have H':=am H;clear H;go_wp2;go_meet
      case rel=>exact ⟨_,(t193),sm,H',⟨by have:=aP.out;first | omega | exact Nat.le_refl _⟩,⟨kp ab.out⟩,⟨bl1 HB.out ag.out⟩⟩
    case rest =>
     clear aX;obtain ⟨kq,aN,rfl,HA,aV,ab,HB⟩:=hcut;cases kq with
     | zero=>exact absurd HA.out (by simp [iB.j1])
     | succ kj13 =>
      have H:=HA.out;clear HA;simp only [iB.j1] at H;have H':=am H;clear H;go_wp2;go_loopg [8] kj13 (fun kq v8 w'=>∃ (ah:Int),v8=.int .i64 ah∧gL (iB.l0 kq a2 ah ae af ac aa=some (r1,r2))∧gL (kq≤kj13)∧gL (w'.heap[ay]? = some (.cells #[.int .i64 ae,.int .i64 af,(.slice aj ac.length ak),(.slice al aa.length ao)] 25 (0,0)))∧gL (Below w.heap.size w w'))
      case atStart=>exact ⟨(aN),sm,H',⟨Nat.le_refl _⟩,⟨kp ab.out⟩,⟨bl1 HB.out ag.out⟩⟩
      case round =>
       clear H';obtain ⟨ah,rfl,HA,a7,ab,HB⟩:=hrel;cases gk with
       | zero=>exact absurd HA.out (by simp [iB.l0])
       | succ k3 =>
        have H:=HA.out;clear HA;simp only [iB.l0] at H;have aY:=am H;clear H;go_upto_region 5 with (fail)
        go_cut [35] (fun v35 wc=>∃ (kq:Nat) (aJ:Bool),v35=.bool aJ∧gL (iB.j3 kq a2 ah aJ ae af ac aa=some (r1,r2))∧gL (kq≤k3)∧gL (wc.heap[ay]? = some (.cells #[.int .i64 ae,.int .i64 af,(.slice aj ac.length ak),(.slice al aa.length ao)] 25 (0,0)))∧gL (Below w.heap.size w wc))
        case first =>
         have H:=aY.out;clear aY;by_cases c17:ah≥0
         ·rw [if_pos c17] at H
          have aK:decide (0≤ah)=true:=decide_eq_true c17;clear c17;(first | rw [aK] | (simp only [nA,pF];rw [aK]) | skip);have H':=am H;clear H;obtain ⟨bW,bX,bY,bZ,b0,b5,b6,b7⟩:=b4 ab.out;go_wp2;go_meet
          case rel=>exact ⟨_,(decide (ah<(aa.length:Int))),sm,H',⟨by have:=aP.out;have:=aV.out;have:=a7.out;first | omega | exact Nat.le_refl _⟩,⟨kp ab.out⟩,⟨bl1 HB.out ag.out⟩⟩
         ·rw [if_neg c17] at H
          have aK:decide (0≤ah)=false:=decide_eq_false c17;clear c17;(first | rw [aK] | (simp only [nA,pF];rw [aK]) | skip);have H':=am H;clear H;go_wp2;go_meet
          case rel=>exact ⟨_,(false),sm,H',⟨by have:=aP.out;have:=aV.out;have:=a7.out;first | omega | exact Nat.le_refl _⟩,⟨kp ab.out⟩,⟨bl1 HB.out ag.out⟩⟩
        case rest =>
         clear aY;obtain ⟨kq,aJ,rfl,HA,bH,ab,HB⟩:=hcut;cases kq with
         | zero=>exact absurd HA.out (by simp [iB.j3])
         | succ kj15 =>
          have H:=HA.out;clear HA;simp only [iB.j3] at H;by_cases c19:aJ=true
          ·subst c19
           have H1:(if 0≤ah then (if ah<(aa.length:Int) then (if (((gW aa ah).f1).length:Int)>0 then (some ((gW aa ah).f0,true)) else (iB.l0 kj15 a2 (wrap64 (ah+a2)) ae af ac aa)) else (none)) else (none))=some (r1,r2):=by rw [if_pos rfl] at H;exact H
           clear H;have H:=H1;clear H1;by_cases c20:0≤ah
           case neg=>rw [if_neg c20] at H;exact absurd H (by simp)
           rw [if_pos c20] at H;have cN:=decide_eq_true c20;clear c20;by_cases c21:ah<(aa.length:Int)
           case neg=>rw [if_neg c21] at H;exact absurd H (by simp)
           rw [if_pos c21] at H;have cO:=decide_eq_true c21;clear c21;by_cases aQ:(((gW aa ah).f1).length:Int)>0
           ·rw [if_pos aQ] at H
            have bO:decide (0<(((gW aa ah).f1).length:Int))=true:=decide_eq_true aQ;have bP:decide (0<((gW aa ah).f1).length)=true:=decide_eq_true (by omega);clear aQ;simp only [Option.some.injEq,Prod.mk.injEq] at H;obtain ⟨rfl,rfl⟩:=H;obtain ⟨b8,b9,ca,cb,cd,ce,cf,cg⟩:=b4 ab.out;have aD:0≤(ah:Int):=of_decide_eq_true asm;have aE:ah<(aa.length:Int):=of_decide_eq_true asm;obtain ⟨a8,bI,bJ,e195,az,aw,aA,aB⟩:=kZ ax.out ah aD aE;cases e195;replace az:=xc HB az;replace aw:=xc HB aw;have bj:=am aB;have bk:=am aA;clear aB aA;replace aD:=eq_true aD;replace aE:=eq_true aE;have aZ:0≤(ah:Int):=of_decide_eq_true asm;have a0:ah<(aa.length:Int):=of_decide_eq_true asm;obtain ⟨bQ,cJ,cK,bU,aR,aL,aS,aT⟩:=kZ ax.out ah aZ a0;obtain rfl:a8=bQ:=(by injection bU);replace aR:=xc HB aR;replace aL:=xc HB aL;have ch:=am aT;have ci:=am aS;clear aT aS;replace aZ:=eq_true aZ;replace a0:=eq_true a0;have bK:=Option.some.inj (aw.symm.trans aL);injection bK with bK cL cM
            subst bK;subst cM;clear cL;go_wp2;go_ret2;exact ⟨rt,bl1 HB.out ag.out⟩
           ·rw [if_neg aQ] at H
            have bO:decide (0<(((gW aa ah).f1).length:Int))=false:=decide_eq_false aQ;have bP:decide (0<((gW aa ah).f1).length)=false:=decide_eq_false (by omega);clear aQ;have H':=am H;clear H;obtain ⟨cj,ck,cm,cn,co,cp,cq,cr⟩:=b4 ab.out;have aD:0≤(ah:Int):=of_decide_eq_true asm;have aE:ah<(aa.length:Int):=of_decide_eq_true asm;obtain ⟨a8,bI,bJ,e195,az,aw,aA,aB⟩:=kZ ax.out ah aD aE;cases e195;replace az:=xc HB az;replace aw:=xc HB aw;have bj:=am aB;have bk:=am aA;clear aB aA;replace aD:=eq_true aD;replace aE:=eq_true aE;go_wp2;go_roundg kj15
            case measure=>have:=aP.out;have:=aV.out;have:=a7.out;have:=bH.out;omega
            case rel=>exact ⟨(wrap64 (ah+a2)),sm,H',⟨by have:=aP.out;have:=aV.out;have:=a7.out;have:=bH.out;omega⟩,⟨kp ab.out⟩,⟨bl1 HB.out ag.out⟩⟩
          ·replace c19:=Bool.eq_false_iff.mpr c19
           subst c19;have H1:(some (0,false))=some (r1,r2):=by rw [if_neg (show ¬ (false=true) by decide)] at H;exact H
           clear H;have H:=H1;clear H1;simp only [Option.some.injEq,Prod.mk.injEq] at H;obtain ⟨rfl,rfl⟩:=H;go_wp2;go_ret2;exact ⟨rt,bl1 HB.out ag.out⟩
 ·replace c5:=Bool.eq_false_iff.mpr c5
  subst c5;have H1:(iB.l1 k a2 a1 ae af ac aa)=some (r1,r2):=by rw [if_neg (show ¬ (false=true) by decide)] at H;exact H
  clear H;have H:=H1;clear H1;have H':=am H;clear H;go_enter Tryz.func76,Tryz.ntmps76;go_wp2_with (first | ((with_reducible refine iC (N:=3) rfl ?_);(try (refine kL (by rfl) ?_;dsimp only));refine bx 3 25 #[.int .i64 ae,.int .i64 af,.slice aj ac.length ak,.slice al aa.length ao] ?_;intro ay hg cS aO hb;have ab:=am (aO);have aU:=am ((bz hg HB.out:w.heap.size≤ay));have ag:=aU;replace HB:=xb HB hb;clear hb aO hg;obtain ⟨bm,bn,bo,bp,bq,br,bs,bu⟩:=b4 ab.out) | ((with_reducible refine gP (f:=95) rfl ?_);refine gl 12 Tryz.func95 #[.agg #[.int .i64 ae,.int .i64 af,.slice aj ac.length ak,.slice al aa.length ao]] ?_;(with_reducible refine (lW.calls k ae af _ _ ac _ _ aa false _ ?ap ?aq ?au ?av A4.out).mono ?_);(case ap=>exact kc (Kd.iA aF.out HB.out));(case aq=>exact aG.out);(case au=>exact kc (Kd.iA ax.out HB.out));(case av=>exact aH.out);rintro e cT ⟨rfl,hb⟩;refine ⟨_,rfl,?_⟩;replace ab:=xk ab hb;replace HB:=xb1 HB ag hb;(try clear hb)));go_loopg [10] k (fun kq v10 w'=>∃ (ai:Int),v10=.int .i64 ai∧gL (iB.l1 kq a2 ai ae af ac aa=some (r1,r2))∧gL (kq≤k)∧gL (w'.heap[ay]? = some (.cells #[.int .i64 ae,.int .i64 af,(.slice aj ac.length ak),(.slice al aa.length ao)] 25 (0,0)))∧gL (Below w.heap.size w w'))
  case atStart=>exact ⟨(a1),sm,H',⟨Nat.le_refl _⟩,⟨kp ab.out⟩,⟨bl1 HB.out ag.out⟩⟩
  case round =>
   clear H';try clear c5
   try clear bm
   try clear bn
   try clear bo
   try clear bp
   try clear bq
   try clear br
   try clear bs
   try clear bu
   obtain ⟨ai,rfl,HA,bS,ab,HB⟩:=hrel;cases gk with
   | zero=>exact absurd HA.out (by simp [iB.l1])
   | succ k1 =>
    have H:=HA.out;clear HA;simp only [iB.l1] at H;replace H:=Option.bind_eq_some_iff.mp H;obtain ⟨bV,bL,H⟩:=H;try dsimp only at H
    have bM:=am bL;clear bL;by_cases a9:bV=true
    ·subst a9
     have H1:((kW.f k1 ae af ac aa ai).bind fun t198=>(if t198=true then (some (ai,true)) else (iB.l1 k1 a2 (wrap64 (ai+a2)) ae af ac aa)))=some (r1,r2):=by rw [if_pos rfl] at H;exact H
     clear H;have H:=H1;clear H1;replace H:=Option.bind_eq_some_iff.mp H;obtain ⟨t198,bN,H⟩:=H;try dsimp only at H
     have bT:=am bN;clear bN;by_cases c31:t198=true
     ·subst c31
      have H1:(some (ai,true))=some (r1,r2):=by rw [if_pos rfl] at H;exact H
      clear H;have H:=H1;clear H1;simp only [Option.some.injEq,Prod.mk.injEq] at H;obtain ⟨rfl,rfl⟩:=H;go_wp2_with (first | ((with_reducible refine gP (f:=48) rfl ?_);refine gl 55 Tryz.func48 #[.int .i64 ai] ?_;(with_reducible refine (kH.calls ai true _ bM.out).mono ?_);rintro e w' ⟨rfl,⟨nd,rfl⟩⟩;refine ⟨_,rfl,?_⟩;obtain ⟨ct,cu,cv,cw,cx,cy,cz,cA⟩:=b4 ab.out) | ((with_reducible refine gP (f:=96) rfl ?_);refine gl 61 Tryz.func96 #[.agg #[.int .i64 ae,.int .i64 af,.slice aj ac.length ak,.slice al aa.length ao],.int .i64 ai] ?_;(with_reducible refine (kW.calls k1 ae af _ _ ac _ _ aa ai true _ ?ap ?aq ?au ?av bT.out).mono ?_);(case ap=>exact kc (Kd.iA aF.out (bl1 HB.out ag.out)));(case aq=>exact aG.out);(case au=>exact kc (Kd.iA ax.out (bl1 HB.out ag.out)));(case av=>exact aH.out);rintro e cU ⟨rfl,hb⟩;refine ⟨_,rfl,?_⟩;replace ab:=xk ab hb;replace HB:=xb1 HB ag hb;(try clear hb)));go_ret2;exact ⟨rt,bl1 HB.out ag.out⟩
     ·replace c31:=Bool.eq_false_iff.mpr c31
      subst c31;have H1:(iB.l1 k1 a2 (wrap64 (ai+a2)) ae af ac aa)=some (r1,r2):=by rw [if_neg (show ¬ (false=true) by decide)] at H;exact H
      clear H;have H:=H1;clear H1;have H':=am H;clear H;go_wp2_with (first | ((with_reducible refine gP (f:=48) rfl ?_);refine gl 55 Tryz.func48 #[.int .i64 ai] ?_;(with_reducible refine (kH.calls ai true _ bM.out).mono ?_);rintro e w' ⟨rfl,⟨nd,rfl⟩⟩;refine ⟨_,rfl,?_⟩;obtain ⟨cB,cC,cD,cE,cF,cG,cH,cI⟩:=b4 ab.out) | ((with_reducible refine gP (f:=96) rfl ?_);refine gl 61 Tryz.func96 #[.agg #[.int .i64 ae,.int .i64 af,.slice aj ac.length ak,.slice al aa.length ao],.int .i64 ai] ?_;(with_reducible refine (kW.calls k1 ae af _ _ ac _ _ aa ai false _ ?ap ?aq ?au ?av bT.out).mono ?_);(case ap=>exact kc (Kd.iA aF.out (bl1 HB.out ag.out)));(case aq=>exact aG.out);(case au=>exact kc (Kd.iA ax.out (bl1 HB.out ag.out)));(case av=>exact aH.out);rintro e cV ⟨rfl,hb⟩;refine ⟨_,rfl,?_⟩;replace ab:=xk ab hb;replace HB:=xb1 HB ag hb;(try clear hb)));go_roundg k1
      case measure=>have:=bS.out;omega
      case rel=>exact ⟨(wrap64 (ai+a2)),sm,H',⟨by have:=bS.out;omega⟩,⟨kp ab.out⟩,⟨bl1 HB.out ag.out⟩⟩
    ·replace a9:=Bool.eq_false_iff.mpr a9
     subst a9;have H1:(some (0,false))=some (r1,r2):=by rw [if_neg (show ¬ (false=true) by decide)] at H;exact H
     clear H;have H:=H1;clear H1;simp only [Option.some.injEq,Prod.mk.injEq] at H;obtain ⟨rfl,rfl⟩:=H;go_wp2_with (first | ((with_reducible refine gP (f:=48) rfl ?_);refine gl 55 Tryz.func48 #[.int .i64 ai] ?_;(with_reducible refine (kH.calls ai false _ bM.out).mono ?_);rintro e w' ⟨rfl,⟨nd,rfl⟩⟩;refine ⟨_,rfl,?_⟩));go_ret2;exact ⟨rt,bl1 HB.out ag.out⟩
def kF.f (k:Nat) (ab:Int) (ac:Int) (ae:List (List (S38))) (af:List (S50)) (a1:Int):Option (Int × Bool):=if a1≥1099511627776 then (some (0,false)) else ((iB.f k ab ac ae af (mx (wrap64 (a1+1)) (-1099511627776)) 1).bind fun aa=>(some (aa.1,aa.2)))
theorem kF.mono:∀ a0 a1 a2 a3 a4 k,LeO (kF.f k a0 a1 a2 a3 a4) (kF.f (k+1) a0 a1 a2 a3 a4):=by
 intro a0 a1 a2 a3 a4 k;unfold kF.f;exact mo (an iB.mono trivial)
set_option maxHeartbeats 8000000 in
set_option maxRecDepth 100000 in
theorem kF.calls (k:Nat) (ac:Int) (ae:Int) (ai:Option Addr) (aj:Nat) (aa:List (List (S38))) (ak:Option Addr) (al:Nat) (ab:List (S50)) (a1:Int) (r1:Int) (r2:Bool) (w:World) (av:Kd.C (Kd.slice 38 k38) w ai aa.length aa) (aw:aa.length≤aj) (ax:Kd.C k50 w ak ab.length ab) (ay:ab.length≤al) (h:kF.f k ac ae aa ab a1=some (r1,r2)) :
 Calls Tryz.prog 56 #[.agg #[.int .i64 ac,.int .i64 ae,.slice ai aa.length aj,.slice ak ab.length al],.int .i64 a1] w fun e w'=>e=.returned (.tuple #[.int .i64 r1,.bool r2])∧Below w.heap.size w w':=by
 have aT:=Tryz.underlying25;have aA:=am av;have aB:=am aw;clear av aw;have aC:=am ax;have aD:=am ay;clear ax ay;have HB:=am (Below.refl w.heap.size w);have H:(if a1≥1099511627776 then (some (0,false)) else ((iB.f k ac ae aa ab (mx (wrap64 (a1+1)) (-1099511627776)) 1).bind fun af=>(some (af.1,af.2))))=some (r1,r2):=h;clear h;by_cases c3:a1≥1099511627776
 ·rw [if_pos c3] at H
  have aI:decide (1099511627776≤a1)=true:=decide_eq_true c3;clear c3;simp only [Option.some.injEq,Prod.mk.injEq] at H;obtain ⟨rfl,rfl⟩:=H;go_enter Tryz.func56,Tryz.ntmps56;go_wp2_with (first | ((with_reducible refine iC (N:=2) rfl ?_);refine bx 2 25 #[.int .i64 ac,.int .i64 ae,.slice ai aa.length aj,.slice ak ab.length al] ?_;intro aq hg w4 ao hb;have ag:=am (ao);have au:=am ((bz hg HB.out:w.heap.size≤aq));have ah:=au;replace HB:=xb HB hb;clear hb ao hg));go_ret2;exact ⟨rt,bl1 HB.out ah.out⟩
 ·rw [if_neg c3] at H
  have aI:decide (1099511627776≤a1)=false:=decide_eq_false c3;clear c3;obtain ⟨az,ap⟩:∃ j_:Int,(mx (wrap64 (a1+1)) (-1099511627776))=j_:=⟨_,rfl⟩;replace H:((iB.f k ac ae aa ab (az) 1).bind fun af=>(some (af.1,af.2)))=some (r1,r2):=by first | (rw [ap] at H;exact H) | (simp only [ap] at H ⊢;exact H)
  have aS:(if (wrap64 (a1+1))<(-1099511627776) then (-1099511627776) else (wrap64 (a1+1)))=az:=ap;replace H:=Option.bind_eq_some_iff.mp H;obtain ⟨⟨aJ,t201⟩,A60,H⟩:=H;try dsimp only at H
  have A6:=am A60;clear A60;simp only [Option.some.injEq,Prod.mk.injEq] at H;obtain ⟨rfl,rfl⟩:=H;go_enter Tryz.func56,Tryz.ntmps56;go_wp2_with (first | ((with_reducible refine iC (N:=2) rfl ?_);refine bx 2 25 #[.int .i64 ac,.int .i64 ae,.slice ai aa.length aj,.slice ak ab.length al] ?_;intro aq hg w7 ao hb;have ag:=am (ao);have au:=am ((bz hg HB.out:w.heap.size≤aq));have ah:=au;replace HB:=xb HB hb;clear hb ao hg;obtain ⟨aK,aL,aM,aN,aO,aP,aQ,aR⟩:=b4 ag.out) | ((with_reducible refine gP (f:=76) rfl ?_);refine xw (some 12) rfl rfl Tryz.func76 (by kernel_rfl) rfl #[.agg #[.int .i64 ac,.int .i64 ae,.slice ai aa.length aj,.slice ak ab.length al],.int .i64 az,.int .i64 1] rfl (by (try simp only [List.map_toArray,List.map_cons,List.map_nil]);first | done | (simp only [ap];rfl) | rfl | (simp only [List.length_drop,List.length_take];rfl)) ?_;(with_reducible refine (iB.calls k ac ae _ _ aa _ _ ab az 1 aJ t201 _ ?aE ?aF ?aG ?aH A6.out).mono ?_);(case aE=>exact kc (Kd.iA aA.out HB.out));(case aF=>exact aB.out);(case aG=>exact kc (Kd.iA aC.out HB.out));(case aH=>exact aD.out);rintro e w9 ⟨rfl,hb⟩;refine ⟨_,rfl,?_⟩;replace ag:=xk ag hb;replace HB:=xb1 HB ah hb;(try clear hb)));go_ret2;exact ⟨by first | rfl | (simp [jV,jW] <;> rfl) | (simp only [← ap];first | rfl | (simp [jV,jW] <;> rfl)) | (simp [*,jV,jW] <;> rfl),bl1 HB.out ah.out⟩
end Go.Proofs.YtmbmalkpmanaaaaGreat.P
namespace Go.Proofs.YtmbmalkpmanaaaaGreat.P
set_option linter.unusedVariables false
set_option linter.unusedSimpArgs false
open Go.RowKit Go.Proofs.YtmbmalkpmanaaaaGreatW.iD Go.Proofs.YtmbmalkpmanaaaaGreatW.jA Go.Proofs.YtmbmalkpmanaaaaGreatW.jw
abbrev Gr:=S50
def rO (x:Int):Bool:=decide (-9223372036854775808≤x)&&decide (x≤9223372036854775807)
theorem uy {x:Int} (h:rO x=true):(Lit.int .i64 x).wf=true:=by
  simp only [rO,Bool.and_eq_true,decide_eq_true_eq] at h;exact WalkArith.wf_i64 (by omega)
def nK (l:List Gr):List Int:=l.map (·.f0)
def jd.l1:Nat→Int→Bool→Int→Int→Int→List (List S38)→List Gr→Option (Int × Bool)
  | 0,_,_,_,_,_,_,_=>none
  | k+1,i,ok,beyond,p,c,core,odd=>if ok=true then (if beyond<2 then ((kC.f k p c core [] i).bind fun g=>if g.2=0 then if rO i=true then if qp (nK odd) i=0 then some (i,true) else (kF.f k p c core [] i).bind fun n=>jd.l1 k n.1 n.2 beyond p c core odd else none else (kF.f k p c core [] i).bind fun n=>jd.l1 k n.1 n.2 (wrap64 (beyond+1)) p c core odd) else some (0,false)) else some (0,false)
def jd.f (k:Nat) (p c:Int) (core:List (List S38)) (odd:List Gr) (t:Int):Option (Int × Bool) :=
  if odd.length<1000000000∧odd.all (fun g=>rO g.f0)=true then (iM.f k p c core odd t).bind fun a=>if a.2=true then (kF.f k p c core [] (wrap64 (a.1 - 1))).bind fun n=>jd.l1 k n.1 n.2 0 p c core odd else some (0,false) else none
theorem jd.kT:∀ (k:Nat) (i:Int) (ok:Bool) (b p c:Int) (core:List (List S38)) (odd:List Gr),LeO (jd.l1 k i ok b p c core odd) (jd.l1 (k+1) i ok b p c core odd)
  | 0,_,_,_,_,_,_,_=>fun r h=>by simp [jd.l1] at h
  | k+1,i,ok,b,p,c,core,odd=>by
    have ih:=jd.kT k;unfold jd.l1;repeat' first
      | (with_reducible exact ih _ _ _ _ _ _ _)
      | (with_reducible exact kC.mono _ _ _ _ _ _)
      | (with_reducible exact kF.mono _ _ _ _ _ _)
      | (with_reducible exact LeO.refl _)
      | (with_reducible exact LeO.none _)
      | (with_reducible refine LeO.ite ?_ ?_)
      | (with_reducible refine LeO.bind ?_ (fun _ => ?_))
theorem jd.mono (p c:Int) (core:List (List S38)) (odd:List Gr) (t:Int) (k:Nat):LeO (jd.f k p c core odd t) (jd.f (k+1) p c core odd t):=by
  unfold jd.f;repeat' first
    | (with_reducible exact jd.kT _ _ _ _ _ _ _ _)
    | (with_reducible exact iM.mono _ _ _ _ _ _)
    | (with_reducible exact kF.mono _ _ _ _ _ _)
    | (with_reducible exact LeO.refl _)
    | (with_reducible exact LeO.none _)
    | (with_reducible refine LeO.ite ?_ ?_)
    | (with_reducible refine LeO.bind ?_ (fun _ => ?_))
set_option maxHeartbeats 8000000 in
set_option maxRecDepth 100000 in
theorem jd.calls (k:Nat) (af:Int) (ag:Int) (ah:Option Addr) (ai:Nat) (ac:List (List (S38))) (ak:Option Addr) (al:Nat) (aa:List (S50)) (a1:Int)  (r1:Int) (r2:Bool) (w:World) (ay:Kd.C (Kd.slice 38 k38) w ah ac.length ac) (az:ac.length≤ai) (aA:Kd.C k50 w ak aa.length aa) (aB:aa.length≤al) (h:jd.f k af ag ac aa a1=some (r1,r2)) :
    Calls Tryz.prog 55 #[.agg #[.int .i64 af,.int .i64 ag,.slice ah ac.length ai,.slice ak aa.length al],.int .i64 a1,.agg #[.int .i64 1,.func (.func 56) #[] #[],.func (.func 57) #[] #[],.func (.func 59) #[] #[]]] w fun e w'=>e=.returned (.tuple #[.int .i64 r1,.bool r2])∧Below w.heap.size w w':=by
  have hmm:=@run_makeMap Tryz.prog;have HR2:=gL.mk ay;have ax:=gL.mk az;have HR3:=gL.mk aA;have aK:=gL.mk aB;unfold jd.f at h;by_cases hlen:aa.length<1000000000∧aa.all (fun g=>rO g.f0)=true
  case neg=>rw [if_neg hlen] at h;cases h
  rw [if_pos hlen] at h;obtain ⟨⟨i0,ok0⟩,hpl,h⟩:=Option.bind_eq_some_iff.mp h;have HP:=gL.mk hpl;have HL:=gL.mk hlen;have H:=gL.mk h;clear ay az aA aB h hpl hlen;go_enter Tryz.func55,Tryz.ntmps55;go_wp2_with fail;refine (iM.calls k af ag ah ai ac ak al aa a1 i0 ok0 _ ?_ ax.out ?_ aK.out HP.out).mono ?_
  · exact Kd.iA HR2.out (by repeat (first | exact Below.refl _ _ | apply jm))
  · exact Kd.iA HR3.out (by repeat (first | exact Below.refl _ _ | apply jm))
  rintro e w1 ⟨rfl,hb1⟩;have HB1:=gL.mk (((((Below.refl w.heap.size w).alloc (Nat.le_refl _) _).alloc (by simp) _).alloc (by simp;try omega) _).trans (hb1.mono (by simp;try omega)));have ao:gL (w1.heap[w.heap.size]? = some (.cells #[.int .i64 af,.int .i64 ag,.slice ah ac.length ai,.slice ak aa.length al] 25 (0,0))):=⟨gU (gM (gM (nu w _) _) _) hb1⟩;have ae:gL (w1.heap[w.heap.size+1]? = some (.cells #[.int .i64 1,.func (.func 56) #[] #[],.func (.func 57) #[] #[],.func (.func 59) #[] #[]] 61 (0,0))):=⟨by have:=gU (gM (nu (w.alloc _) _) _) hb1;simpa using this⟩;have ab:gL (w1.heap[w.heap.size+1+1]? = some (.cells #[.int .i64 af,.int .i64 ag,.slice ah ac.length ai,.slice none 0 0] 25 (0,0))):=⟨by have:=gU (nu ((w.alloc _).alloc _) _) hb1;simpa using this⟩;have SZ:gL (w.heap.size+3≤w1.heap.size):=⟨by have:=hb1.size;simp at this;omega⟩;clear hb1;cases ok0
  · go_wp2
    have h:=H.out;simp at h;obtain ⟨rfl,rfl⟩:=h;go_ret2;exact ⟨rfl,HB1.out⟩
  · have hc3:(w1.alloc (.map #[] 0)).cell? ⟨w.heap.size,3,none⟩=some (.slice ak aa.length al):=(iY (gM ao.out _) 3).trans rfl
    have hf3:=kQ (gM ao.out (.map #[] 0)) 3;go_wp2_with fail;clear hc3 hf3;have HX:=H.out;rw [if_pos trivial] at HX;obtain ⟨⟨n1,n2⟩,hn,HX⟩:=Option.bind_eq_some_iff.mp HX;have HN:=gL.mk hn;have H2:=gL.mk HX;clear H HX hn;go_loopw [37] (fun v wr=>∃ m:Nat,gL (m≤aa.length)∧v=.int .i64 (m:Int)∧gL (wr.heap[w.heap.size]? = some (.cells #[.int .i64 af,.int .i64 ag,.slice ah ac.length ai,.slice ak aa.length al] 25 (0,0)))∧gL (wr.heap[w.heap.size+1]? = some (.cells #[.int .i64 1,.func (.func 56) #[] #[],.func (.func 57) #[] #[],.func (.func 59) #[] #[]] 61 (0,0)))∧gL (wr.heap[w.heap.size+1+1]? = some (.cells #[.int .i64 af,.int .i64 ag,.slice ah ac.length ai,.slice none 0 0] 25 (0,0)))∧gL (qw wr w1.heap.size (nK (aa.take m)))∧gL (Below w.heap.size w wr)) (fun v _=>aa.length - (intOf v).toNat)
    case atStart=>exact ⟨0,⟨Nat.zero_le _⟩,rfl,⟨gM ao.out _⟩,⟨gM ae.out _⟩,⟨gM ab.out _⟩,⟨qw.made w1⟩,⟨HB1.out.alloc HB1.out.size _⟩⟩
    case round =>
      clear ao ae ab HB1;obtain ⟨m,hm,rfl,ao,ae,ab,OM,HB⟩:=hrel;by_cases hlt:m<aa.length
      · obtain ⟨ad,A1,c1,e,hx0,hx1,hl1,hi1⟩:=kZ HR3.out (m:Int) (by omega) (by omega)
        subst e;have hy:gW aa (m:Int)=aa[m]:=by simp [gW,hlt]
        have hwf:rO (gW aa (m:Int)).f0=true:=by
          rw [hy];exact List.all_eq_true.1 HL.out.2 _ (List.getElem_mem hlt)
        have htk:nK (aa.take (m+1))=nK (aa.take m)++[(gW aa (m:Int)).f0]:=by
          rw [hy,List.take_succ_eq_append_getElem hlt];exact List.map_append
        have hln:(nK (aa.take m)).length<maxLen:=by simp only [nK,List.length_map,List.length_take];have:=HL.out.1;unfold maxLen;omega
        have aE:=gL.mk htk;have ap:=gL.mk (uy hwf);have aL:=gL.mk hln;have aF:=gL.mk hlt;have hw:wrap64 ((m:Int)+1)=((m+1:Nat):Int):=by have:=HL.out.1;unfold wrap64;omega
        have HW:=gL.mk hw;clear hy hwf htk hln hw;replace hx0:=(HB.out.cell (World.block_lt_of_cell? w _ hx0)).trans hx0;replace hx1:=(HB.out.cell (World.block_lt_of_cell? w _ hx1)).trans hx1;have p0:0≤(m:Int):=by omega
        have p1:(m:Int)<(aa.length:Int):=by omega
        obtain ⟨x,hx⟩:∃ x:Int,(m:Int)=x:=⟨_,rfl⟩;rw [hx] at p0 p1 hx0 hx1 aE ap HW ⊢;have aM:=gL.mk hx;clear hx hlt;have p2:decide (x<(aa.length:Int))=true:=decide_eq_true p1;replace p0:=eq_true p0;replace p1:=eq_true p1;go_wp2_with (first
          | (at_lookup;refine qw.lookup (b:=w1.heap.size) (l:=nK (aa.take m)) (qw.heap OM.out (Below.heap_alloc wr _ _ OM.out.lt)) rfl _ _ rfl rfl _ ap.out rfl ?_)
          | (at_mapUpdate;refine qw.update (b:=w1.heap.size) (l:=nK (aa.take m)) (qw.heap OM.out (Below.heap_alloc wr _ _ OM.out.lt)) rfl _ _ _ rfl rfl aL.out _ ap.out rfl rfl ?_;intro w4 aG aH;have aN:=gL.mk aG;have aC:=gL.mk aH;clear aG aH))
        go_roundw
        case rel =>
          have hne:∀ g,g<w.heap.size+3→some g≠some w1.heap.size:=fun g hg e=>by have:=SZ.out;injection e;omega
          exact ⟨m+1,⟨aF.out⟩,by rw [HW.out],⟨lg (gM ao.out _) aC.out (hne _ (by omega))⟩,⟨lg (gM ae.out _) aC.out (hne _ (by omega))⟩,⟨lg (gM ab.out _) aC.out (hne _ (by omega))⟩,
            ⟨by rw [aE.out];exact aN.out⟩,⟨(HB.out.alloc HB.out.size _).grown aC.out (HB.out.alloc HB.out.size _).size (fun j hj=>by cases hj;have:=SZ.out;omega)⟩⟩
        case measure=>have:=aF.out;have:=HW.out;have:=aM.out;simp only [intOf];omega
      · have aJ:m=aa.length:=by have:=hm.out;omega
        subst aJ;have aD:gL (qw wr w1.heap.size (nK aa)):=⟨by have:=OM.out;rwa [List.take_length] at this⟩;clear OM hlt hm;have hc0:=(iY ae.out 0).trans rfl;have hc1:=(iY ae.out 1).trans rfl;have h80:=(iY ab.out 0).trans rfl;have aq:=(iY ab.out 1).trans rfl;have au:=(iY ab.out 2).trans rfl;have av:=(iY ab.out 3).trans rfl;have p2:decide ((aa.length:Int)<(aa.length:Int))=false:=by simp
        go_wp2_with fail;refine (kF.calls k af ag ah ai ac none 0 [] _ n1 n2 _ (Kd.iA HR2.out HB.out) ax.out (Kd.uE _ _) (Nat.le_refl _) HN.out).mono ?_;rintro e w5 ⟨rfl,hb5⟩;have n5:=gL.mk (gU ae.out hb5);have n8:=gL.mk (gU ab.out hb5);have nm:=gL.mk (qw.heap aD.out (hb5.block _ aD.out.lt));have nb:=gL.mk (kR HB.out hb5);clear ao ae ab aD HB hc0 hc1 h80 aq au av hb5 p2;go_wp2_with fail;go_loopg [9,10,14] k (fun kq v9 v10 v14 w'=>∃ (i:Int) (ok:Bool) (aw:Int),v9=.int .i64 i∧v10=.bool ok∧v14=.int .i64 aw∧gL (jd.l1 kq i ok aw af ag ac aa=some (r1,r2))∧gL (kq≤k)∧gL (w'.heap[w.heap.size+1]? = some (.cells #[.int .i64 1,.func (.func 56) #[] #[],.func (.func 57) #[] #[],.func (.func 59) #[] #[]] 61 (0,0)))∧gL (w'.heap[w.heap.size+1+1]? = some (.cells #[.int .i64 af,.int .i64 ag,.slice ah ac.length ai,.slice none 0 0] 25 (0,0)))∧gL (qw w' w1.heap.size (nK aa))∧gL (Below w.heap.size w w'))
        case atStart=>exact ⟨n1,n2,0,rfl,rfl,rfl,H2,⟨Nat.le_refl _⟩,n5,n8,nm,nb⟩
        case round =>
          clear n5 n8 nm nb H2 HN;obtain ⟨i,ok,aw,rfl,rfl,rfl,HA,aI,ae,ab,OM,HB⟩:=hrel;cases gk with
          | zero=>exact absurd HA.out (by simp [jd.l1])
          | succ k1 =>
            have hc0:=(iY ae.out 0).trans rfl;have hc1:=(iY ae.out 1).trans rfl;have h80:=(iY ab.out 0).trans rfl;have aq:=(iY ab.out 1).trans rfl;have au:=(iY ab.out 2).trans rfl;have av:=(iY ab.out 3).trans rfl;have H:=HA.out;clear HA;simp only [jd.l1] at H;cases ok
            · simp at H
              obtain ⟨rfl,rfl⟩:=H;go_wp2;all_goals (go_ret2;exact ⟨rfl,HB.out⟩)
            · rw [if_pos rfl] at H
              by_cases cb:aw<2
              · rw [if_pos cb] at H
                obtain ⟨⟨l,e⟩,hg,H⟩:=Option.bind_eq_some_iff.mp H;have aO:decide (aw<2)=true:=decide_eq_true cb;clear cb;have HG:=gL.mk hg;have H':=gL.mk H;clear hg H;go_wp2_with fail;refine (kC.calls k1 af ag ah ai ac none 0 [] i l e _ (Kd.iA HR2.out HB.out) ax.out (Kd.uE _ _) (Nat.le_refl _) HG.out).mono ?_;rintro e' w6 ⟨v,rfl,hR,hb6⟩;have n5:=gL.mk (gU ae.out hb6);have n8:=gL.mk (gU ab.out hb6);have nm:=gL.mk (qw.heap OM.out (hb6.block _ OM.out.lt));have nb:=gL.mk (kR HB.out hb6);clear ae ab OM HB hc0 hc1 h80 aq au av hb6 hR;have ae:=n5;have ab:=n8;have OM:=nm;have HB:=nb;clear n5 n8 nm nb;have hc0:=(iY ae.out 0).trans rfl;have hc1:=(iY ae.out 1).trans rfl;have h80:=(iY ab.out 0).trans rfl;have aq:=(iY ab.out 1).trans rfl;have au:=(iY ab.out 2).trans rfl;have av:=(iY ab.out 3).trans rfl;have H:=H'.out;clear H';by_cases ce:e=0
                · subst ce
                  rw [if_pos rfl] at H;by_cases cf:rO i=true
                  case neg=>rw [if_neg cf] at H;cases H
                  rw [if_pos cf] at H;have ap:=gL.mk (uy cf);clear cf;by_cases cz:qp (nK aa) i=0
                  · rw [if_pos cz] at H
                    simp only [Option.some.injEq,Prod.mk.injEq] at H;obtain ⟨e1,rfl⟩:=H;have E1:=gL.mk e1;clear e1;have aP:(qp (nK aa) i==0)=true:=by simpa using cz
                    have aQ:decide (qp (nK aa) i=0)=true:=by simpa using cz
                    go_wp2_with (at_lookup;refine qw.lookup (b:=w1.heap.size) (l:=nK aa) OM.out rfl _ _ rfl rfl _ ap.out rfl ?_);go_ret2;exact ⟨by simp [E1.out],HB.out⟩
                  · rw [if_neg cz] at H
                    have aP:(qp (nK aa) i==0)=false:=by simpa using cz
                    have aQ:decide (qp (nK aa) i=0)=false:=by simpa using cz
                    clear cz;obtain ⟨⟨m1,m2⟩,hn,H⟩:=Option.bind_eq_some_iff.mp H;have HN:=gL.mk hn;have H':=gL.mk H;clear hn H;go_wp2_with (first | (at_lookup;refine qw.lookup (b:=w1.heap.size) (l:=nK aa) OM.out rfl _ _ rfl rfl _ ap.out rfl ?_) | fail);refine (kF.calls k1 af ag ah ai ac none 0 [] _ m1 m2 _ (Kd.iA HR2.out HB.out) ax.out (Kd.uE _ _) (Nat.le_refl _) HN.out).mono ?_;rintro e w7 ⟨rfl,aj⟩;have n5:=gL.mk (gU ae.out aj);have n8:=gL.mk (gU ab.out aj);have nm:=gL.mk (qw.heap OM.out (aj.block _ OM.out.lt));have nb:=gL.mk (kR HB.out aj);clear ae ab OM HB hc0 hc1 h80 aq au av aj;go_wp2;go_roundg k1
                    case measure=>exact Nat.lt_succ_self _
                    case rel=>exact ⟨m1,m2,_,rfl,rfl,rfl,H',⟨Nat.le_of_succ_le aI.out⟩,n5,n8,nm,nb⟩
                · rw [if_neg ce] at H
                  have aR:(e != 0)=true:=by simpa using ce
                  have aS:(e==0)=false:=by simpa using ce
                  clear ce;obtain ⟨⟨m1,m2⟩,hn,H⟩:=Option.bind_eq_some_iff.mp H;have HN:=gL.mk hn;have H':=gL.mk H;clear hn H;go_wp2_with fail;refine (kF.calls k1 af ag ah ai ac none 0 [] _ m1 m2 _ (Kd.iA HR2.out HB.out) ax.out (Kd.uE _ _) (Nat.le_refl _) HN.out).mono ?_;rintro e w7 ⟨rfl,aj⟩;have n5:=gL.mk (gU ae.out aj);have n8:=gL.mk (gU ab.out aj);have nm:=gL.mk (qw.heap OM.out (aj.block _ OM.out.lt));have nb:=gL.mk (kR HB.out aj);clear ae ab OM HB hc0 hc1 h80 aq au av aj;go_wp2;go_roundg k1
                  case measure=>exact Nat.lt_succ_self _
                  case rel=>exact ⟨m1,m2,_,rfl,rfl,rfl,H',⟨Nat.le_of_succ_le aI.out⟩,n5,n8,nm,nb⟩
              · rw [if_neg cb] at H
                have aO:decide (aw<2)=false:=decide_eq_false cb;clear cb;cases H;go_wp2;all_goals (go_ret2;exact ⟨rfl,HB.out⟩)
end Go.Proofs.YtmbmalkpmanaaaaGreat.P
