/- Lemmas for laws of chapter 7: what the functions that they reach compute. No condition of its own. -/
import Derived.Test.YtmbmalkpmanaaaaGreatYH4
import Derived.Test.YtmbmalkpmanaaaaGreatYH2
namespace Go.Proofs.YtmbmalkpmanaaaaGreat.P
open Go.RowKit Go.Proofs.YtmbmalkpmanaaaaGreatW.iD Go.Proofs.YtmbmalkpmanaaaaGreatW.jA Go.Proofs.YtmbmalkpmanaaaaGreatW.jw
attribute [local go_sem] lS lT mG mH kU kV lU lV   -- for this text's walks alone
set_option linter.unusedVariables false
set_option linter.unusedSimpArgs false
def iM.l0:Nat→Int→Int→Bool→List (List (S38))→Int→Int→Int→Int→List (List (S38))→List (S50)→Int→Option (Int × Bool)
 | 0,_,_,_,_,_,_,_,_,_,_,_=>none
 | k+1,x1,x8,x9,x16,x17,x18,x257000,x257001,x257002,x257003,x258000=>if x18<x17 then (if 0≤x18 then (if x18<(x16.length:Int) then ((jh.f (jr x16 x18)).bind fun aa=>(if aa.2.2=true then ((mD.f k aa.1 aa.2.1 x1 x257000).bind fun ab=>(if x9=true then (if (wrap64 ((wrap64 ((wrap64 ((wrap64 (ab*x257001))+x18)) - x8))*x258000))<0 then (iM.l0 k x1 (wrap64 ((wrap64 (ab*x257001))+x18)) true x16 x17 (wrap64 (x18+1)) x257000 x257001 x257002 x257003 x258000) else (iM.l0 k x1 x8 x9 x16 x17 (wrap64 (x18+1)) x257000 x257001 x257002 x257003 x258000)) else (iM.l0 k x1 (wrap64 ((wrap64 (ab*x257001))+x18)) true x16 x17 (wrap64 (x18+1)) x257000 x257001 x257002 x257003 x258000))) else (iM.l0 k x1 x8 x9 x16 x17 (wrap64 (x18+1)) x257000 x257001 x257002 x257003 x258000))) else (none)) else (none)) else (some (x8,x9))
def iM.f (k:Nat) (ab:Int) (ac:Int) (aa:List (List (S38))) (ae:List (S50)) (a1:Int)  : Option (Int × Bool):=iM.l0 k a1 0 false aa (aa.length:Int) 0 ab ac aa ae 1
theorem iM.kT:∀ k,(∀ y0 y1 y2 y3 y4 y5 y6 y7 y8 y9 aa,LeO (iM.l0 k y0 y1 y2 y3 y4 y5 y6 y7 y8 y9 aa) (iM.l0 (k+1) y0 y1 y2 y3 y4 y5 y6 y7 y8 y9 aa))
 | 0=>fun _ _ _ _ _ _ _ _ _ _ _ r h=>by simp [iM.l0] at h
 | k+1=>by
  have ab:=iM.kT k
  ·intro y0 y1 y2 y3 y4 y5 y6 y7 y8 y9 aa
   unfold iM.l0;exact mo (an ab (an mD.mono trivial))
theorem iM.mono:∀ a0 a1 a2 a3 a4 k,LeO (iM.f k a0 a1 a2 a3 a4) (iM.f (k+1) a0 a1 a2 a3 a4):=by
 intro a0 a1 a2 a3 a4 k;have aa:=iM.kT k;unfold iM.f;exact mo (an aa (an mD.mono trivial))
def iM.T7:Bool × List (List Nat × List Nat):=(true,[([],[]),([0],[0]),([],[]),([],[]),([],[]),([4],[4]),([1,2,3,5],[1,2,3,5]),([],[]),([7],[7]),([6,8],[6,8]),([],[]),([9,10],[9,10]),([11,6,0,1,2,3,4,5,6,7,8,9,10,11],[11])])
def iM.B7:List Nat:=[0,1,0,0,0,16,63,0,128,511,0,2047,4095]
theorem iM.aac:qc .any (opsOf Tryz.f75 7)=iM.T7:=by kernel_rfl
theorem iM.tN:l8 iM.T7.2 iM.B7=true:=by kernel_rfl
set_option maxHeartbeats 8000000 in
set_option maxRecDepth 100000 in
theorem iM.calls (k:Nat) (aq:Int) (au:Int) (a5:Option Addr) (aP:Nat) (af:List (List (S38))) (aQ:Option Addr) (aR:Nat) (ax:List (S50)) (a1:Int)  (r1:Int) (r2:Bool) (w:World) (ba:Kd.C (Kd.slice 38 k38) w a5 af.length af) (bb:af.length≤aP) (bd:Kd.C k50 w aQ ax.length ax) (be:ax.length≤aR) (h:iM.f k aq au af ax a1=some (r1,r2)) :
 Calls Tryz.prog 75 #[.agg #[.int .i64 aq,.int .i64 au,.slice a5 af.length aP,.slice aQ ax.length aR],.int .i64 a1,.agg #[.int .i64 1,.func (.func 56) #[] #[],.func (.func 57) #[] #[],.func (.func 59) #[] #[]]] w fun e w'=>e=.returned (.tuple #[.int .i64 r1,.bool r2])∧Below w.heap.size w w':=by
 have cD:=Tryz.underlying25;have cE:=Tryz.underlying61;have cF:=Tryz.underlying38;have a4:=am ba;have cd:=am bb;clear ba bb;have ce:=am bd;have cf:=am be;clear bd be;have HB:=am (Below.refl w.heap.size w);have H:(iM.l0 k a1 0 false af (af.length:Int) 0 aq au af ax 1)=some (r1,r2):=h;clear h;have H':=am H;clear H;go_enter Tryz.func75,Tryz.ntmps75;go_wp2_with (first | ((with_reducible refine iC (N:=3) rfl ?_);refine bx 3 25 #[.int .i64 aq,.int .i64 au,.slice a5 af.length aP,.slice aQ ax.length aR] ?_;intro aj hg w4 aB hb;have aa:=am (aB);have br:=am ((bz hg HB.out:w.heap.size≤aj));have al:=br;replace HB:=xb HB hb;clear hb aB hg) | ((with_reducible refine iC (N:=5) rfl ?_);refine bx 5 61 #[.int .i64 1,.func (.func 56) #[] #[],.func (.func 57) #[] #[],.func (.func 59) #[] #[]] ?_;intro ak hg w5 aB hb;have ab:=am (aB);have bs:=am ((bz1 hg HB.out al.out:w.heap.size≤ak));have ap:=bs;replace HB:=xb1 HB al hb;have aV:=am ((nl hg aa.out:aj≠ak));have aW:=am ((ng hg aa.out:ak≠aj));replace aa:=xk aa hb;clear hb aB hg;have cG:=aV.out;have cH:=aW.out;obtain ⟨bg,bh,bi,bj,bk,bm,bn,bo⟩:=b4 aa.out))
 go_loopg [8,9,18] k (fun kq v8 v9 v18 w'=>∃ (aL:Int) (aX:Bool) (ae:Int),v8=.int .i64 aL∧v9=.bool aX∧v18=.int .i64 ae∧gL (iM.l0 kq a1 aL aX af (af.length:Int) ae aq au af ax 1=some (r1,r2))∧gL (kq≤k)∧gL (w'.heap[aj]? = some (.cells #[.int .i64 aq,.int .i64 au,(.slice a5 af.length aP),(.slice aQ ax.length aR)] 25 (0,0)))∧gL (w'.heap[ak]? = some (.cells #[.int .i64 1,(.func (.func 56) #[] #[]),(.func (.func 57) #[] #[]),(.func (.func 59) #[] #[])] 61 (0,0)))∧gL (Below w.heap.size w w'))
 case atStart=>exact ⟨(0),(false),(0),sm,sm,sm,H',⟨Nat.le_refl _⟩,⟨kp aa.out⟩,⟨kp ab.out⟩,⟨bl2 HB.out al.out ap.out⟩⟩
 case round =>
  clear H';try clear bg
  try clear bh
  try clear bi
  try clear bj
  try clear bk
  try clear bm
  try clear bn
  try clear bo
  obtain ⟨aL,aX,ae,rfl,rfl,rfl,HA,a3,aa,ab,HB⟩:=hrel;cases gk with
  | zero=>exact absurd HA.out (by simp [iM.l0])
  | succ k1 =>
   have H:=HA.out;clear HA;simp only [iM.l0] at H;by_cases c8:ae<(af.length:Int)
   ·rw [if_pos c8] at H
    have bu:=decide_eq_true c8;clear c8;by_cases c9:0≤ae
    case neg=>rw [if_neg c9] at H;exact absurd H (by simp)
    rw [if_pos c9] at H;have cI:=decide_eq_true c9;clear c9;by_cases c10:ae<(af.length:Int)
    case neg=>rw [if_neg c10] at H;exact absurd H (by simp)
    rw [if_pos c10] at H;have cg:=decide_eq_true c10;clear c10;replace H:=Option.bind_eq_some_iff.mp H;obtain ⟨⟨ah,ai,bv⟩,A110,H⟩:=H;try dsimp only at H
    have bf:=am A110;clear A110;by_cases c12:bv=true
    ·subst c12
     have H1:((mD.f k1 ah ai a1 aq).bind fun aH=>(if aX=true then (if (wrap64 ((wrap64 ((wrap64 ((wrap64 (aH*au))+ae)) - aL))*1))<0 then (iM.l0 k1 a1 (wrap64 ((wrap64 (aH*au))+ae)) true af (af.length:Int) (wrap64 (ae+1)) aq au af ax 1) else (iM.l0 k1 a1 aL aX af (af.length:Int) (wrap64 (ae+1)) aq au af ax 1)) else (iM.l0 k1 a1 (wrap64 ((wrap64 (aH*au))+ae)) true af (af.length:Int) (wrap64 (ae+1)) aq au af ax 1)))=some (r1,r2):=by rw [if_pos rfl] at H;exact H
     clear H;have H:=H1;clear H1;replace H:=Option.bind_eq_some_iff.mp H;obtain ⟨aH,bp,H⟩:=H;try dsimp only at H
     have bq:=am bp;clear bp;by_cases c14:aX=true
     ·subst c14
      have H1:(if (wrap64 ((wrap64 ((wrap64 ((wrap64 (aH*au))+ae)) - aL))*1))<0 then (iM.l0 k1 a1 (wrap64 ((wrap64 (aH*au))+ae)) true af (af.length:Int) (wrap64 (ae+1)) aq au af ax 1) else (iM.l0 k1 a1 aL true af (af.length:Int) (wrap64 (ae+1)) aq au af ax 1))=some (r1,r2):=by rw [if_pos rfl] at H;exact H
      clear H;have H:=H1;clear H1;by_cases c15:(wrap64 ((wrap64 ((wrap64 ((wrap64 (aH*au))+ae)) - aL))*1))<0
      ·rw [if_pos c15] at H
       have a6:=decide_eq_true c15;(try simp only [Int.mul_one,Int.mul_neg,Int.add_zero] at a6);clear c15;have H':=am H;clear H;have aF:0≤(ae:Int):=of_decide_eq_true asm;have aG:ae<(af.length:Int):=of_decide_eq_true asm;obtain ⟨aK,aM,aN,e258,ay,az,aA⟩:=nS a4.out ae aF aG;cases e258;replace ay:=xc HB ay;have aI:=am aA;have aJ:=am az;clear aA az;replace aF:=eq_true aF;replace aG:=eq_true aG;try go_wp2_with (first | ((with_reducible refine gP (f:=15) rfl ?_);refine gl 25 Tryz.func15 #[.slice aM (jr af ae).length aN] ?_;(with_reducible refine (jh.calls _ _ (jr af ae) ah ai true _ ?aS ?aT bf.out).mono ?_);(case aS=>exact kc (Kd.iA aI.out HB.out));(case aT=>exact aJ.out);rintro e w16 ⟨rfl,hb⟩;refine ⟨_,rfl,?_⟩;replace aa:=xk aa hb;replace ab:=xk ab hb;replace HB:=xb2 HB al ap hb;(try clear hb)) | ((with_reducible refine iC (N:=12) rfl ?_);refine bx 12 38 #[.int .i64 0,.int .i64 0] ?_;intro ac hg a7 aB hb;have ag:=am (aB);have aU:=am ((bz2 hg HB.out al.out ap.out:w.heap.size≤ac));have aE:=aU;replace HB:=xb2 HB al ap hb;have av:=am ((nl hg aa.out:aj≠ac));have aC:=am ((ng hg aa.out:ac≠aj));replace aa:=xk aa hb;have aw:=am ((nl hg ab.out:ak≠ac));have aD:=am ((ng hg ab.out:ac≠ak));replace ab:=xk ab hb;clear hb aB hg;have ch:=aC.out;have ci:=av.out;have cj:=aD.out;have ck:=aw.out;obtain ⟨bw,bA,bB,bC⟩:=b2 ag.out))
       have aY:gL (((a7.setCell ⟨ac,0,none⟩ (.int .i64 ah)).setCell ⟨ac,1,none⟩ (.int .i64 ai)).heap[aj]? = some (.cells #[.int .i64 aq,.int .i64 au,.slice (some aK) af.length aP,.slice aQ ax.length aR] 25 (0,0))):=⟨kf aa.out av.out⟩;have aZ:gL (((a7.setCell ⟨ac,0,none⟩ (.int .i64 ah)).setCell ⟨ac,1,none⟩ (.int .i64 ai)).heap[ak]? = some (.cells #[.int .i64 1,.func (.func 56) #[] #[],.func (.func 57) #[] #[],.func (.func 59) #[] #[]] 61 (0,0))):=⟨kf ab.out aw.out⟩;have a0:gL (((a7.setCell ⟨ac,0,none⟩ (.int .i64 ah)).setCell ⟨ac,1,none⟩ (.int .i64 ai)).heap[ac]? = some (.cells #[.int .i64 ah,.int .i64 ai] 38 (0,0))):=⟨by (with_reducible repeat (first | refine gV ?_ _ | refine gQ ?_ | refine gM ?_ _));refine iT (cs:=#[.int .i64 ah,.int .i64 0]) ?_ 1 _ rfl;(with_reducible repeat (first | refine gV ?_ _ | refine gQ ?_ | refine gM ?_ _));refine iT (cs:=#[.int .i64 0,.int .i64 0]) ?_ 0 _ rfl;(with_reducible repeat (first | refine gV ?_ _ | refine gQ ?_ | refine gM ?_ _));exact ag.out⟩;have a2:gL (Below w.heap.size w ((a7.setCell ⟨ac,0,none⟩ (.int .i64 ah)).setCell ⟨ac,1,none⟩ (.int .i64 ai))):=⟨bl3 HB.out al.out ap.out aE.out⟩;(try clear aa);(try clear ab);(try clear ag);(try clear HB);generalize ((a7.setCell ⟨ac,0,none⟩ (.int .i64 ah)).setCell ⟨ac,1,none⟩ (.int .i64 ai))=b9 at aY aZ a0 a2 ⊢;have aa:=aY;have ab:=aZ;have ag:=a0;have HB:=a2;clear aY aZ a0 a2;replace aa:=am (gQ aa.out);replace ab:=am (gQ ab.out);replace ag:=am (gQ ag.out);replace HB:=am (iQ HB.out)
       refine lu (n:=13) (S:=fun w'=>w'.cell? ⟨ak,0,none⟩=some (.int .i64 1)∧w'.cell? ⟨ak,1,none⟩=some (.func (.func 56) #[] #[])∧w'.cell? ⟨ak,2,none⟩=some (.func (.func 57) #[] #[])∧w'.cell? ⟨ak,3,none⟩=some (.func (.func 59) #[] #[])∧w'.cell? ⟨ac,0,none⟩=some (.int .i64 ah)∧w'.cell? ⟨ac,1,none⟩=some (.int .i64 ai)∧w'.cell? ⟨aj,0,none⟩=some (.int .i64 aq)∧w'.cell? ⟨aj,1,none⟩=some (.int .i64 au)∧w'.cell? ⟨aj,2,none⟩=some (.slice (some aK) af.length aP)∧w'.cell? ⟨aj,3,none⟩=some (.slice aQ ax.length aR)) (ds:=[]) (rs false [13]) (by kernel_rfl) rfl rfl ⟨bc ab.out 0,bc ab.out 1,bc ab.out 2,bc ab.out 3,bc ag.out 0,bc ag.out 1,bc aa.out 0,bc aa.out 1,bc aa.out 2,bc aa.out 3⟩ (fun hHeld => ?_);refine jK iM.aac iM.tN (fun ao aO => ?_);generalize b9.drew=cJ at aa ab ag HB hHeld ⊢;refine px 0 30 (rs true [1,12]) ao.out ?_;refine px 3 33 (rs true [1,2,1,9]) ao.out ?_;refine px 4 34 (rs true [1,2,2,8]) ao.out ?_;refine px 7 37 (rs true [1,2,2,2,1,5]) ao.out ?_;refine px 10 40 (rs true [1,2,2,2,1,2,1,2]) ao.out ?_;refine tx 1 31 (rs true [2,1,2,2,1,2,1,2]) ao.out aO.out hHeld ?_;refine tx 2 32 (rs true [5,2,1,2,1,2]) ao.out aO.out hHeld ?_;refine tx 5 35 (rs true [6,1,1,2,1,2]) ao.out aO.out hHeld ?_;refine tx 8 38 (rs true [6,1,2,1,1,2]) ao.out aO.out hHeld ?_;refine ny (i:=6) (N:=some 36) (rs true [9,1,1,2]) rfl rfl (jM ao.out (by kernel_rfl)) (by decide) (fun K hK => ?_)
       first | refine lC Tryz.func57 (by kernel_rfl) rfl #[.agg #[.int .i64 ah,.int .i64 ai],.int .i64 a1,.int .i64 aq] (by rfl) rfl rfl ar ?_ | refine vN Tryz.func57 (by kernel_rfl) rfl #[.agg #[.int .i64 ah,.int .i64 ai],.int .i64 a1,.int .i64 aq] (by rfl) rfl rfl rfl ar ?_
       with_reducible refine (mD.calls k1 ah ai a1 aq aH _ bq.out).mono ?_
       rintro e cK ⟨rfl,hb⟩;refine ⟨_,rfl,?_⟩;replace aa:=xk aa hb;replace ab:=xk ab hb;replace ag:=xk ag hb;replace HB:=xb3 HB al ap aE hb;(try clear hb);refine hK.out _ _ ⟨bc ab.out 0,bc ab.out 1,bc ab.out 2,bc ab.out 3,bc ag.out 0,bc ag.out 1,bc aa.out 0,bc aa.out 1,bc aa.out 2,bc aa.out 3⟩ (fun hHeld => ?_);clear hK K;refine nx 36 ?_;refine px 9 39 (rs true [11,2]) ao.out ?_;refine px 11 41 (rs true [12,1]) ao.out ?_;refine px 12 14 (rs true [13]) ao.out ?_;refine mU (kI ao.out (by kernel_rfl)) ?_;have cm:=aW.out;have cn:=aV.out;obtain ⟨bD,bE,bF,bG,bH,bI,bJ,bK⟩:=b4 ab.out;try go_wp2
       go_roundg k1
       case measure=>have:=a3.out;omega
       case rel=>exact ⟨(wrap64 ((wrap64 (aH*au))+ae)),(true),(wrap64 (ae+1)),sm,sm,sm,H',⟨by have:=a3.out;omega⟩,⟨kp aa.out⟩,⟨kp ab.out⟩,⟨bl3 HB.out al.out ap.out aE.out⟩⟩
      ·rw [if_neg c15] at H
       have a6:=decide_eq_false c15;(try simp only [Int.mul_one,Int.mul_neg,Int.add_zero] at a6);clear c15;have H':=am H;clear H;have aF:0≤(ae:Int):=of_decide_eq_true asm;have aG:ae<(af.length:Int):=of_decide_eq_true asm;obtain ⟨aK,aM,aN,e258,ay,az,aA⟩:=nS a4.out ae aF aG;cases e258;replace ay:=xc HB ay;have aI:=am aA;have aJ:=am az;clear aA az;replace aF:=eq_true aF;replace aG:=eq_true aG;try go_wp2_with (first | ((with_reducible refine gP (f:=15) rfl ?_);refine gl 25 Tryz.func15 #[.slice aM (jr af ae).length aN] ?_;(with_reducible refine (jh.calls _ _ (jr af ae) ah ai true _ ?aS ?aT bf.out).mono ?_);(case aS=>exact kc (Kd.iA aI.out HB.out));(case aT=>exact aJ.out);rintro e cL ⟨rfl,hb⟩;refine ⟨_,rfl,?_⟩;replace aa:=xk aa hb;replace ab:=xk ab hb;replace HB:=xb2 HB al ap hb;(try clear hb)) | ((with_reducible refine iC (N:=12) rfl ?_);refine bx 12 38 #[.int .i64 0,.int .i64 0] ?_;intro ac hg a8 aB hb;have ag:=am (aB);have aU:=am ((bz2 hg HB.out al.out ap.out:w.heap.size≤ac));have aE:=aU;replace HB:=xb2 HB al ap hb;have av:=am ((nl hg aa.out:aj≠ac));have aC:=am ((ng hg aa.out:ac≠aj));replace aa:=xk aa hb;have aw:=am ((nl hg ab.out:ak≠ac));have aD:=am ((ng hg ab.out:ac≠ak));replace ab:=xk ab hb;clear hb aB hg;have co:=aC.out;have cp:=av.out;have cq:=aD.out;have cr:=aw.out;obtain ⟨bL,bM,bN,bO⟩:=b2 ag.out))
       have aY:gL (((a8.setCell ⟨ac,0,none⟩ (.int .i64 ah)).setCell ⟨ac,1,none⟩ (.int .i64 ai)).heap[aj]? = some (.cells #[.int .i64 aq,.int .i64 au,.slice (some aK) af.length aP,.slice aQ ax.length aR] 25 (0,0))):=⟨kf aa.out av.out⟩;have aZ:gL (((a8.setCell ⟨ac,0,none⟩ (.int .i64 ah)).setCell ⟨ac,1,none⟩ (.int .i64 ai)).heap[ak]? = some (.cells #[.int .i64 1,.func (.func 56) #[] #[],.func (.func 57) #[] #[],.func (.func 59) #[] #[]] 61 (0,0))):=⟨kf ab.out aw.out⟩;have a0:gL (((a8.setCell ⟨ac,0,none⟩ (.int .i64 ah)).setCell ⟨ac,1,none⟩ (.int .i64 ai)).heap[ac]? = some (.cells #[.int .i64 ah,.int .i64 ai] 38 (0,0))):=⟨by (with_reducible repeat (first | refine gV ?_ _ | refine gQ ?_ | refine gM ?_ _));refine iT (cs:=#[.int .i64 ah,.int .i64 0]) ?_ 1 _ rfl;(with_reducible repeat (first | refine gV ?_ _ | refine gQ ?_ | refine gM ?_ _));refine iT (cs:=#[.int .i64 0,.int .i64 0]) ?_ 0 _ rfl;(with_reducible repeat (first | refine gV ?_ _ | refine gQ ?_ | refine gM ?_ _));exact ag.out⟩;have a2:gL (Below w.heap.size w ((a8.setCell ⟨ac,0,none⟩ (.int .i64 ah)).setCell ⟨ac,1,none⟩ (.int .i64 ai))):=⟨bl3 HB.out al.out ap.out aE.out⟩;(try clear aa);(try clear ab);(try clear ag);(try clear HB);generalize ((a8.setCell ⟨ac,0,none⟩ (.int .i64 ah)).setCell ⟨ac,1,none⟩ (.int .i64 ai))=ca at aY aZ a0 a2 ⊢;have aa:=aY;have ab:=aZ;have ag:=a0;have HB:=a2;clear aY aZ a0 a2;replace aa:=am (gQ aa.out);replace ab:=am (gQ ab.out);replace ag:=am (gQ ag.out);replace HB:=am (iQ HB.out)
       refine lu (n:=13) (S:=fun w'=>w'.cell? ⟨ak,0,none⟩=some (.int .i64 1)∧w'.cell? ⟨ak,1,none⟩=some (.func (.func 56) #[] #[])∧w'.cell? ⟨ak,2,none⟩=some (.func (.func 57) #[] #[])∧w'.cell? ⟨ak,3,none⟩=some (.func (.func 59) #[] #[])∧w'.cell? ⟨ac,0,none⟩=some (.int .i64 ah)∧w'.cell? ⟨ac,1,none⟩=some (.int .i64 ai)∧w'.cell? ⟨aj,0,none⟩=some (.int .i64 aq)∧w'.cell? ⟨aj,1,none⟩=some (.int .i64 au)∧w'.cell? ⟨aj,2,none⟩=some (.slice (some aK) af.length aP)∧w'.cell? ⟨aj,3,none⟩=some (.slice aQ ax.length aR)) (ds:=[]) (rs false [13]) (by kernel_rfl) rfl rfl ⟨bc ab.out 0,bc ab.out 1,bc ab.out 2,bc ab.out 3,bc ag.out 0,bc ag.out 1,bc aa.out 0,bc aa.out 1,bc aa.out 2,bc aa.out 3⟩ (fun hHeld => ?_);refine jK iM.aac iM.tN (fun ao aO => ?_);generalize ca.drew=w32 at aa ab ag HB hHeld ⊢;refine px 0 30 (rs true [1,12]) ao.out ?_;refine px 3 33 (rs true [1,2,1,9]) ao.out ?_;refine px 4 34 (rs true [1,2,2,8]) ao.out ?_;refine px 7 37 (rs true [1,2,2,2,1,5]) ao.out ?_;refine px 10 40 (rs true [1,2,2,2,1,2,1,2]) ao.out ?_;refine tx 1 31 (rs true [2,1,2,2,1,2,1,2]) ao.out aO.out hHeld ?_;refine tx 2 32 (rs true [5,2,1,2,1,2]) ao.out aO.out hHeld ?_;refine tx 5 35 (rs true [6,1,1,2,1,2]) ao.out aO.out hHeld ?_;refine tx 8 38 (rs true [6,1,2,1,1,2]) ao.out aO.out hHeld ?_;refine ny (i:=6) (N:=some 36) (rs true [9,1,1,2]) rfl rfl (jM ao.out (by kernel_rfl)) (by decide) (fun K hK => ?_)
       first | refine lC Tryz.func57 (by kernel_rfl) rfl #[.agg #[.int .i64 ah,.int .i64 ai],.int .i64 a1,.int .i64 aq] (by rfl) rfl rfl ar ?_ | refine vN Tryz.func57 (by kernel_rfl) rfl #[.agg #[.int .i64 ah,.int .i64 ai],.int .i64 a1,.int .i64 aq] (by rfl) rfl rfl rfl ar ?_
       with_reducible refine (mD.calls k1 ah ai a1 aq aH _ bq.out).mono ?_
       rintro e cM ⟨rfl,hb⟩;refine ⟨_,rfl,?_⟩;replace aa:=xk aa hb;replace ab:=xk ab hb;replace ag:=xk ag hb;replace HB:=xb3 HB al ap aE hb;(try clear hb);refine hK.out _ _ ⟨bc ab.out 0,bc ab.out 1,bc ab.out 2,bc ab.out 3,bc ag.out 0,bc ag.out 1,bc aa.out 0,bc aa.out 1,bc aa.out 2,bc aa.out 3⟩ (fun hHeld => ?_);clear hK K;refine nx 36 ?_;refine px 9 39 (rs true [11,2]) ao.out ?_;refine px 11 41 (rs true [12,1]) ao.out ?_;refine px 12 14 (rs true [13]) ao.out ?_;refine mU (kI ao.out (by kernel_rfl)) ?_;have ct:=aW.out;have cu:=aV.out;obtain ⟨bP,bQ,bR,bS,bT,bU,bV,bW⟩:=b4 ab.out;try go_wp2
       go_roundg k1
       case measure=>have:=a3.out;omega
       case rel=>exact ⟨(aL),(true),(wrap64 (ae+1)),sm,sm,sm,H',⟨by have:=a3.out;omega⟩,⟨kp aa.out⟩,⟨kp ab.out⟩,⟨bl3 HB.out al.out ap.out aE.out⟩⟩
     ·replace c14:=Bool.eq_false_iff.mpr c14
      subst c14;have H1:(iM.l0 k1 a1 (wrap64 ((wrap64 (aH*au))+ae)) true af (af.length:Int) (wrap64 (ae+1)) aq au af ax 1)=some (r1,r2):=by rw [if_neg (show ¬ (false=true) by decide)] at H;exact H
      clear H;have H:=H1;clear H1;have H':=am H;clear H;have aF:0≤(ae:Int):=of_decide_eq_true asm;have aG:ae<(af.length:Int):=of_decide_eq_true asm;obtain ⟨aK,aM,aN,e258,ay,az,aA⟩:=nS a4.out ae aF aG;cases e258;replace ay:=xc HB ay;have aI:=am aA;have aJ:=am az;clear aA az;replace aF:=eq_true aF;replace aG:=eq_true aG;try go_wp2_with (first | ((with_reducible refine gP (f:=15) rfl ?_);refine gl 25 Tryz.func15 #[.slice aM (jr af ae).length aN] ?_;(with_reducible refine (jh.calls _ _ (jr af ae) ah ai true _ ?aS ?aT bf.out).mono ?_);(case aS=>exact kc (Kd.iA aI.out HB.out));(case aT=>exact aJ.out);rintro e cN ⟨rfl,hb⟩;refine ⟨_,rfl,?_⟩;replace aa:=xk aa hb;replace ab:=xk ab hb;replace HB:=xb2 HB al ap hb;(try clear hb)) | ((with_reducible refine iC (N:=12) rfl ?_);refine bx 12 38 #[.int .i64 0,.int .i64 0] ?_;intro ac hg a9 aB hb;have ag:=am (aB);have aU:=am ((bz2 hg HB.out al.out ap.out:w.heap.size≤ac));have aE:=aU;replace HB:=xb2 HB al ap hb;have av:=am ((nl hg aa.out:aj≠ac));have aC:=am ((ng hg aa.out:ac≠aj));replace aa:=xk aa hb;have aw:=am ((nl hg ab.out:ak≠ac));have aD:=am ((ng hg ab.out:ac≠ak));replace ab:=xk ab hb;clear hb aB hg;have cv:=aC.out;have cw:=av.out;have cx:=aD.out;have cy:=aw.out;obtain ⟨bX,bY,bZ,b0⟩:=b2 ag.out))
      have aY:gL (((a9.setCell ⟨ac,0,none⟩ (.int .i64 ah)).setCell ⟨ac,1,none⟩ (.int .i64 ai)).heap[aj]? = some (.cells #[.int .i64 aq,.int .i64 au,.slice (some aK) af.length aP,.slice aQ ax.length aR] 25 (0,0))):=⟨kf aa.out av.out⟩;have aZ:gL (((a9.setCell ⟨ac,0,none⟩ (.int .i64 ah)).setCell ⟨ac,1,none⟩ (.int .i64 ai)).heap[ak]? = some (.cells #[.int .i64 1,.func (.func 56) #[] #[],.func (.func 57) #[] #[],.func (.func 59) #[] #[]] 61 (0,0))):=⟨kf ab.out aw.out⟩;have a0:gL (((a9.setCell ⟨ac,0,none⟩ (.int .i64 ah)).setCell ⟨ac,1,none⟩ (.int .i64 ai)).heap[ac]? = some (.cells #[.int .i64 ah,.int .i64 ai] 38 (0,0))):=⟨by (with_reducible repeat (first | refine gV ?_ _ | refine gQ ?_ | refine gM ?_ _));refine iT (cs:=#[.int .i64 ah,.int .i64 0]) ?_ 1 _ rfl;(with_reducible repeat (first | refine gV ?_ _ | refine gQ ?_ | refine gM ?_ _));refine iT (cs:=#[.int .i64 0,.int .i64 0]) ?_ 0 _ rfl;(with_reducible repeat (first | refine gV ?_ _ | refine gQ ?_ | refine gM ?_ _));exact ag.out⟩;have a2:gL (Below w.heap.size w ((a9.setCell ⟨ac,0,none⟩ (.int .i64 ah)).setCell ⟨ac,1,none⟩ (.int .i64 ai))):=⟨bl3 HB.out al.out ap.out aE.out⟩;(try clear aa);(try clear ab);(try clear ag);(try clear HB);generalize ((a9.setCell ⟨ac,0,none⟩ (.int .i64 ah)).setCell ⟨ac,1,none⟩ (.int .i64 ai))=cb at aY aZ a0 a2 ⊢;have aa:=aY;have ab:=aZ;have ag:=a0;have HB:=a2;clear aY aZ a0 a2;replace aa:=am (gQ aa.out);replace ab:=am (gQ ab.out);replace ag:=am (gQ ag.out);replace HB:=am (iQ HB.out)
      refine lu (n:=13) (S:=fun w'=>w'.cell? ⟨ak,0,none⟩=some (.int .i64 1)∧w'.cell? ⟨ak,1,none⟩=some (.func (.func 56) #[] #[])∧w'.cell? ⟨ak,2,none⟩=some (.func (.func 57) #[] #[])∧w'.cell? ⟨ak,3,none⟩=some (.func (.func 59) #[] #[])∧w'.cell? ⟨ac,0,none⟩=some (.int .i64 ah)∧w'.cell? ⟨ac,1,none⟩=some (.int .i64 ai)∧w'.cell? ⟨aj,0,none⟩=some (.int .i64 aq)∧w'.cell? ⟨aj,1,none⟩=some (.int .i64 au)∧w'.cell? ⟨aj,2,none⟩=some (.slice (some aK) af.length aP)∧w'.cell? ⟨aj,3,none⟩=some (.slice aQ ax.length aR)) (ds:=[]) (rs false [13]) (by kernel_rfl) rfl rfl ⟨bc ab.out 0,bc ab.out 1,bc ab.out 2,bc ab.out 3,bc ag.out 0,bc ag.out 1,bc aa.out 0,bc aa.out 1,bc aa.out 2,bc aa.out 3⟩ (fun hHeld => ?_);refine jK iM.aac iM.tN (fun ao aO => ?_);generalize cb.drew=cO at aa ab ag HB hHeld ⊢;refine px 0 30 (rs true [1,12]) ao.out ?_;refine px 3 33 (rs true [1,2,1,9]) ao.out ?_;refine px 4 34 (rs true [1,2,2,8]) ao.out ?_;refine px 7 37 (rs true [1,2,2,2,1,5]) ao.out ?_;refine px 10 40 (rs true [1,2,2,2,1,2,1,2]) ao.out ?_;refine tx 1 31 (rs true [2,1,2,2,1,2,1,2]) ao.out aO.out hHeld ?_;refine tx 2 32 (rs true [5,2,1,2,1,2]) ao.out aO.out hHeld ?_;refine tx 5 35 (rs true [6,1,1,2,1,2]) ao.out aO.out hHeld ?_;refine tx 8 38 (rs true [6,1,2,1,1,2]) ao.out aO.out hHeld ?_;refine ny (i:=6) (N:=some 36) (rs true [9,1,1,2]) rfl rfl (jM ao.out (by kernel_rfl)) (by decide) (fun K hK => ?_)
      first | refine lC Tryz.func57 (by kernel_rfl) rfl #[.agg #[.int .i64 ah,.int .i64 ai],.int .i64 a1,.int .i64 aq] (by rfl) rfl rfl ar ?_ | refine vN Tryz.func57 (by kernel_rfl) rfl #[.agg #[.int .i64 ah,.int .i64 ai],.int .i64 a1,.int .i64 aq] (by rfl) rfl rfl rfl ar ?_
      with_reducible refine (mD.calls k1 ah ai a1 aq aH _ bq.out).mono ?_
      rintro e cP ⟨rfl,hb⟩;refine ⟨_,rfl,?_⟩;replace aa:=xk aa hb;replace ab:=xk ab hb;replace ag:=xk ag hb;replace HB:=xb3 HB al ap aE hb;(try clear hb);refine hK.out _ _ ⟨bc ab.out 0,bc ab.out 1,bc ab.out 2,bc ab.out 3,bc ag.out 0,bc ag.out 1,bc aa.out 0,bc aa.out 1,bc aa.out 2,bc aa.out 3⟩ (fun hHeld => ?_);clear hK K;refine nx 36 ?_;refine px 9 39 (rs true [11,2]) ao.out ?_;refine px 11 41 (rs true [12,1]) ao.out ?_;refine px 12 14 (rs true [13]) ao.out ?_;refine mU (kI ao.out (by kernel_rfl)) ?_;try go_wp2
      go_roundg k1
      case measure=>have:=a3.out;omega
      case rel=>exact ⟨(wrap64 ((wrap64 (aH*au))+ae)),(true),(wrap64 (ae+1)),sm,sm,sm,H',⟨by have:=a3.out;omega⟩,⟨kp aa.out⟩,⟨kp ab.out⟩,⟨bl3 HB.out al.out ap.out aE.out⟩⟩
    ·replace c12:=Bool.eq_false_iff.mpr c12
     subst c12;have H1:(iM.l0 k1 a1 aL aX af (af.length:Int) (wrap64 (ae+1)) aq au af ax 1)=some (r1,r2):=by rw [if_neg (show ¬ (false=true) by decide)] at H;exact H
     clear H;have H:=H1;clear H1;have H':=am H;clear H;have aF:0≤(ae:Int):=of_decide_eq_true asm;have aG:ae<(af.length:Int):=of_decide_eq_true asm;obtain ⟨aK,aM,aN,e258,ay,az,aA⟩:=nS a4.out ae aF aG;cases e258;replace ay:=xc HB ay;have aI:=am aA;have aJ:=am az;clear aA az;replace aF:=eq_true aF;replace aG:=eq_true aG;go_wp2_with (first | ((with_reducible refine gP (f:=15) rfl ?_);refine gl 25 Tryz.func15 #[.slice aM (jr af ae).length aN] ?_;(with_reducible refine (jh.calls _ _ (jr af ae) ah ai false _ ?aS ?aT bf.out).mono ?_);(case aS=>exact kc (Kd.iA aI.out HB.out));(case aT=>exact aJ.out);rintro e cQ ⟨rfl,hb⟩;refine ⟨_,rfl,?_⟩;replace aa:=xk aa hb;replace ab:=xk ab hb;replace HB:=xb2 HB al ap hb;(try clear hb)) | ((with_reducible refine iC (N:=12) rfl ?_);refine bx 12 38 #[.int .i64 0,.int .i64 0] ?_;intro ac hg cR aB hb;have ag:=am (aB);have aU:=am ((bz2 hg HB.out al.out ap.out:w.heap.size≤ac));have aE:=aU;replace HB:=xb2 HB al ap hb;have av:=am ((nl hg aa.out:aj≠ac));have aC:=am ((ng hg aa.out:ac≠aj));replace aa:=xk aa hb;have aw:=am ((nl hg ab.out:ak≠ac));have aD:=am ((ng hg ab.out:ac≠ak));replace ab:=xk ab hb;clear hb aB hg;have cz:=aC.out;have cA:=av.out;have cB:=aD.out;have cC:=aw.out;obtain ⟨b5,b6,b7,b8⟩:=b2 ag.out));go_roundg k1
     case measure=>have:=a3.out;omega
     case rel=>exact ⟨(aL),(aX),(wrap64 (ae+1)),sm,sm,sm,H',⟨by have:=a3.out;omega⟩,⟨kf aa.out av.out⟩,⟨kf ab.out aw.out⟩,⟨bl3 HB.out al.out ap.out aE.out⟩⟩
   ·rw [if_neg c8] at H
    have bu:=decide_eq_false c8;clear c8;simp only [Option.some.injEq,Prod.mk.injEq] at H;obtain ⟨rfl,rfl⟩:=H;go_wp2;go_ret2;exact ⟨rt,bl2 HB.out al.out ap.out⟩
def kH.f (a0:Int):Option (Bool):=if a0≥(-1099511627776) then (some (decide (a0≤1099511627776))) else (some false)
set_option maxHeartbeats 8000000 in
set_option maxRecDepth 100000 in
theorem kH.calls (a0:Int) (r:Bool) (w:World) (h:kH.f a0=some r) :
 Calls Tryz.prog 48 #[.int .i64 a0] w fun e w'=>e=.returned (.bool r)∧iZ w w':=by
 have H:(if a0≥(-1099511627776) then (some (decide (a0≤1099511627776))) else (some false))=some r:=h;clear h;by_cases c2:a0≥(-1099511627776)
 ·rw [if_pos c2] at H
  have aa:decide ((-1099511627776)≤a0)=true:=decide_eq_true c2;clear c2;obtain rfl:=Option.some.inj H;go_enter Tryz.func48,Tryz.ntmps48;go_wp2;go_ret;exact ⟨by first | rfl | (simp;done) | (simp [*];done),by repeat (first | exact iZ.refl _ | apply iZ.step)⟩
 ·rw [if_neg c2] at H
  have aa:decide ((-1099511627776)≤a0)=false:=decide_eq_false c2;clear c2;obtain rfl:=Option.some.inj H;go_enter Tryz.func48,Tryz.ntmps48;go_wp2;go_ret;exact ⟨by first | rfl | (simp;done) | (simp [*];done),by repeat (first | exact iZ.refl _ | apply iZ.step)⟩
def cmp_isNaN_int.f (a0:Int):Option (Bool):=some (a0 != a0)
set_option maxHeartbeats 8000000 in
set_option maxRecDepth 100000 in
theorem cmp_isNaN_int.calls (a0:Int) (r:Bool) (w:World) (h:cmp_isNaN_int.f a0=some r) :
 Calls Tryz.prog 65 #[.int .i64 a0] w fun e w'=>e=.returned (.bool r)∧iZ w w':=by
 have H:(some (a0 != a0))=some r:=h;clear h;obtain rfl:=Option.some.inj H;go_enter Tryz.func65,Tryz.ntmps65;go_wp2;go_ret;exact ⟨by first | rfl | (simp;done) | (simp [*];done),by repeat (first | exact iZ.refl _ | apply iZ.step)⟩
def cmp_Compare_int.f (a0:Int) (a1:Int):Option (Int):=(cmp_isNaN_int.f a0).bind fun t131=>((cmp_isNaN_int.f a1).bind fun aa=>(if t131=true then (if aa=true then (some 0) else (some (-1))) else (if aa=true then (some 1) else (if a0<a1 then (some (-1)) else (if a0>a1 then (some 1) else (some 0))))))
set_option maxHeartbeats 8000000 in
set_option maxRecDepth 100000 in
theorem cmp_Compare_int.calls (a0:Int) (a1:Int) (r:Int) (w:World) (h:cmp_Compare_int.f a0 a1=some r) :
 Calls Tryz.prog 36 #[.int .i64 a0,.int .i64 a1] w fun e w'=>e=.returned (.int .i64 r)∧iZ w w':=by
 have H:((cmp_isNaN_int.f a0).bind fun t131=>((cmp_isNaN_int.f a1).bind fun aa=>(if t131=true then (if aa=true then (some 0) else (some (-1))) else (if aa=true then (some 1) else (if a0<a1 then (some (-1)) else (if a0>a1 then (some 1) else (some 0)))))))=some r:=h;clear h;replace H:=Option.bind_eq_some_iff.mp H;obtain ⟨t131,ab,H⟩:=H;try dsimp only at H
 have A3:=am ab;clear ab;replace H:=Option.bind_eq_some_iff.mp H;obtain ⟨aa,ac,H⟩:=H;try dsimp only at H
 have A4:=am ac;clear ac;by_cases c5:t131=true
 ·subst c5
  have H1:(if aa=true then (some 0) else (some (-1)))=some r:=by rw [if_pos rfl] at H;exact H
  clear H;have H:=H1;clear H1;by_cases c6:aa=true
  ·subst c6
   have H1:(some 0)=some r:=by rw [if_pos rfl] at H;exact H
   clear H;have H:=H1;clear H1;obtain rfl:=Option.some.inj H;go_enter Tryz.func36,Tryz.ntmps36;go_wp2_with (first | ((with_reducible refine gP (f:=65) rfl ?_);refine gl 8 Tryz.func65 #[.int .i64 a0] ?_;(with_reducible refine (cmp_isNaN_int.calls a0 true _ A3.out).mono ?_);rintro e w' ⟨rfl,⟨nd,rfl⟩⟩;refine ⟨_,rfl,?_⟩) | ((with_reducible refine gP (f:=65) rfl ?_);refine gl 10 Tryz.func65 #[.int .i64 a1] ?_;(with_reducible refine (cmp_isNaN_int.calls a1 true _ A4.out).mono ?_);rintro e w' ⟨rfl,⟨nd,rfl⟩⟩;refine ⟨_,rfl,?_⟩));go_ret;exact ⟨by first | rfl | (simp;done) | (simp [*];done),by repeat (first | exact iZ.refl _ | apply iZ.step)⟩
  ·replace c6:=Bool.eq_false_iff.mpr c6
   subst c6;have H1:(some (-1))=some r:=by rw [if_neg (show ¬ (false=true) by decide)] at H;exact H
   clear H;have H:=H1;clear H1;obtain rfl:=Option.some.inj H;go_enter Tryz.func36,Tryz.ntmps36;go_wp2_with (first | ((with_reducible refine gP (f:=65) rfl ?_);refine gl 8 Tryz.func65 #[.int .i64 a0] ?_;(with_reducible refine (cmp_isNaN_int.calls a0 true _ A3.out).mono ?_);rintro e w' ⟨rfl,⟨nd,rfl⟩⟩;refine ⟨_,rfl,?_⟩) | ((with_reducible refine gP (f:=65) rfl ?_);refine gl 10 Tryz.func65 #[.int .i64 a1] ?_;(with_reducible refine (cmp_isNaN_int.calls a1 false _ A4.out).mono ?_);rintro e w' ⟨rfl,⟨nd,rfl⟩⟩;refine ⟨_,rfl,?_⟩));go_ret;exact ⟨by first | rfl | (simp;done) | (simp [*];done),by repeat (first | exact iZ.refl _ | apply iZ.step)⟩
 ·replace c5:=Bool.eq_false_iff.mpr c5
  subst c5;have H1:(if aa=true then (some 1) else (if a0<a1 then (some (-1)) else (if a0>a1 then (some 1) else (some 0))))=some r:=by rw [if_neg (show ¬ (false=true) by decide)] at H;exact H
  clear H;have H:=H1;clear H1;by_cases c7:aa=true
  ·subst c7
   have H1:(some 1)=some r:=by rw [if_pos rfl] at H;exact H
   clear H;have H:=H1;clear H1;obtain rfl:=Option.some.inj H;go_enter Tryz.func36,Tryz.ntmps36;go_wp2_with (first | ((with_reducible refine gP (f:=65) rfl ?_);refine gl 8 Tryz.func65 #[.int .i64 a0] ?_;(with_reducible refine (cmp_isNaN_int.calls a0 false _ A3.out).mono ?_);rintro e w' ⟨rfl,⟨nd,rfl⟩⟩;refine ⟨_,rfl,?_⟩) | ((with_reducible refine gP (f:=65) rfl ?_);refine gl 10 Tryz.func65 #[.int .i64 a1] ?_;(with_reducible refine (cmp_isNaN_int.calls a1 true _ A4.out).mono ?_);rintro e w' ⟨rfl,⟨nd,rfl⟩⟩;refine ⟨_,rfl,?_⟩));go_ret;exact ⟨by first | rfl | (simp;done) | (simp [*];done),by repeat (first | exact iZ.refl _ | apply iZ.step)⟩
  ·replace c7:=Bool.eq_false_iff.mpr c7
   subst c7;have H1:(if a0<a1 then (some (-1)) else (if a0>a1 then (some 1) else (some 0)))=some r:=by rw [if_neg (show ¬ (false=true) by decide)] at H;exact H
   clear H;have H:=H1;clear H1;by_cases c8:a0<a1
   ·rw [if_pos c8] at H
    have ae:=decide_eq_true c8;clear c8;obtain rfl:=Option.some.inj H;go_enter Tryz.func36,Tryz.ntmps36;go_wp2_with (first | ((with_reducible refine gP (f:=65) rfl ?_);refine gl 8 Tryz.func65 #[.int .i64 a0] ?_;(with_reducible refine (cmp_isNaN_int.calls a0 false _ A3.out).mono ?_);rintro e w' ⟨rfl,⟨nd,rfl⟩⟩;refine ⟨_,rfl,?_⟩) | ((with_reducible refine gP (f:=65) rfl ?_);refine gl 10 Tryz.func65 #[.int .i64 a1] ?_;(with_reducible refine (cmp_isNaN_int.calls a1 false _ A4.out).mono ?_);rintro e w' ⟨rfl,⟨nd,rfl⟩⟩;refine ⟨_,rfl,?_⟩));go_ret;exact ⟨by first | rfl | (simp;done) | (simp [*];done),by repeat (first | exact iZ.refl _ | apply iZ.step)⟩
   ·rw [if_neg c8] at H
    have ae:=decide_eq_false c8;clear c8;by_cases c9:a0>a1
    ·rw [if_pos c9] at H
     have af:decide (a1<a0)=true:=decide_eq_true c9;clear c9;obtain rfl:=Option.some.inj H;go_enter Tryz.func36,Tryz.ntmps36;go_wp2_with (first | ((with_reducible refine gP (f:=65) rfl ?_);refine gl 8 Tryz.func65 #[.int .i64 a0] ?_;(with_reducible refine (cmp_isNaN_int.calls a0 false _ A3.out).mono ?_);rintro e w' ⟨rfl,⟨nd,rfl⟩⟩;refine ⟨_,rfl,?_⟩) | ((with_reducible refine gP (f:=65) rfl ?_);refine gl 10 Tryz.func65 #[.int .i64 a1] ?_;(with_reducible refine (cmp_isNaN_int.calls a1 false _ A4.out).mono ?_);rintro e w' ⟨rfl,⟨nd,rfl⟩⟩;refine ⟨_,rfl,?_⟩));go_ret;exact ⟨by first | rfl | (simp;done) | (simp [*];done),by repeat (first | exact iZ.refl _ | apply iZ.step)⟩
    ·rw [if_neg c9] at H
     have af:decide (a1<a0)=false:=decide_eq_false c9;clear c9;obtain rfl:=Option.some.inj H;go_enter Tryz.func36,Tryz.ntmps36;go_wp2_with (first | ((with_reducible refine gP (f:=65) rfl ?_);refine gl 8 Tryz.func65 #[.int .i64 a0] ?_;(with_reducible refine (cmp_isNaN_int.calls a0 false _ A3.out).mono ?_);rintro e w' ⟨rfl,⟨nd,rfl⟩⟩;refine ⟨_,rfl,?_⟩) | ((with_reducible refine gP (f:=65) rfl ?_);refine gl 10 Tryz.func65 #[.int .i64 a1] ?_;(with_reducible refine (cmp_isNaN_int.calls a1 false _ A4.out).mono ?_);rintro e w' ⟨rfl,⟨nd,rfl⟩⟩;refine ⟨_,rfl,?_⟩));go_ret;exact ⟨by first | rfl | (simp;done) | (simp [*];done),by repeat (first | exact iZ.refl _ | apply iZ.step)⟩
def nE.f (aa:Int) (ac:List (S38)) (a1:Int):Option (Int):=(cmp_Compare_int.f aa a1).bind fun ab=>(some ab)
set_option maxHeartbeats 8000000 in
set_option maxRecDepth 100000 in
theorem nE.calls (aa:Int) (ac:Option Addr) (ae:Nat) (ab:List (S38)) (a1:Int) (r:Int) (w:World) (ag:Kd.C k38 w ac ab.length ab) (ah:ab.length≤ae) (h:nE.f aa ab a1=some r) :
 Calls Tryz.prog 91 #[.agg #[.int .i64 aa,.slice ac ab.length ae],.int .i64 a1] w fun e w'=>e=.returned (.int .i64 r)∧Below w.heap.size w w':=by
 have az:=Tryz.underlying50;have ax:=am ag;have ay:=am ah;clear ag ah;have HB:=am (Below.refl w.heap.size w);have H:((cmp_Compare_int.f aa a1).bind fun af=>(some af))=some r:=h;clear h;replace H:=Option.bind_eq_some_iff.mp H;obtain ⟨af,ap,H⟩:=H;try dsimp only at H
 have A3:=am ap;clear ap;obtain rfl:=Option.some.inj H;go_enter Tryz.func91,Tryz.ntmps91;go_wp2_with (first | ((with_reducible refine iC (N:=2) rfl ?_);refine bx 2 50 #[.int .i64 aa,.slice ac ab.length ae] ?_;intro aj hg w4 ai hb;have ak:=am (ai);have al:=am ((bz hg HB.out:w.heap.size≤aj));have ao:=al;replace HB:=xb HB hb;clear hb ai hg;obtain ⟨aq,au,av,aw⟩:=b2 ak.out) | ((with_reducible refine gP (f:=36) rfl ?_);refine gl 8 Tryz.func36 #[.int .i64 aa,.int .i64 a1] ?_;(with_reducible refine (cmp_Compare_int.calls aa a1 af _ A3.out).mono ?_);rintro e w' ⟨rfl,⟨nd,rfl⟩⟩;refine ⟨_,rfl,?_⟩));go_ret;exact ⟨rt,bl1 HB.out ao.out⟩
def gX.l0:Nat→List (S50)→Int→Int→Int→Int→Option (Int × Bool)
 | 0,_,_,_,_,_=>none
 | k+1,x0,x1,x8,x9,x10=>if x9<x10 then (if 0≤(wrap64 ((IntKind.u64.wrap (wrap64 (x9+x10))) / 2)) then (if (wrap64 ((IntKind.u64.wrap (wrap64 (x9+x10))) / 2))<(x0.length:Int) then ((nE.f ((gW x0 (wrap64 ((IntKind.u64.wrap (wrap64 (x9+x10))) / 2))).f0) ((gW x0 (wrap64 ((IntKind.u64.wrap (wrap64 (x9+x10))) / 2))).f1) x1).bind fun aa=>(if aa<0 then (gX.l0 k x0 x1 x8 (wrap64 ((wrap64 ((IntKind.u64.wrap (wrap64 (x9+x10))) / 2))+1)) x10) else (gX.l0 k x0 x1 x8 x9 (wrap64 ((IntKind.u64.wrap (wrap64 (x9+x10))) / 2))))) else (none)) else (none)) else (if x9<x8 then (if 0≤x9 then (if x9<(x0.length:Int) then ((nE.f ((gW x0 x9).f0) ((gW x0 x9).f1) x1).bind fun t138=>(some (x9,(t138==0)))) else (none)) else (none)) else (some (x9,false)))
def gX.f (k:Nat) (l0:List (S50)) (a1:Int)  : Option (Int × Bool):=gX.l0 k l0 a1 (l0.length:Int) 0 (l0.length:Int)
theorem gX.kT:∀ k,(∀ y0 y1 y2 y3 y4,LeO (gX.l0 k y0 y1 y2 y3 y4) (gX.l0 (k+1) y0 y1 y2 y3 y4))
 | 0=>fun _ _ _ _ _ r h=>by simp [gX.l0] at h
 | k+1=>by
  have aa:=gX.kT k
  ·intro y0 y1 y2 y3 y4
   unfold gX.l0;exact mo (an aa trivial)
theorem gX.mono:∀ a0 a1 k,LeO (gX.f k a0 a1) (gX.f (k+1) a0 a1):=by
 intro a0 a1 k;have aa:=gX.kT k;unfold gX.f;exact mo (an aa trivial)
set_option maxHeartbeats 8000000 in
set_option maxRecDepth 100000 in
theorem gX.calls (k:Nat) (A0:Option Addr) (c0:Nat) (l0:List (S50)) (a1:Int)  (r1:Int) (r2:Bool) (w:World) (hr0:Kd.C k50 w A0 l0.length l0) (hc0:l0.length≤c0) (h:gX.f k l0 a1=some (r1,r2)) :
 Calls Tryz.prog 90 #[.slice A0 l0.length c0,.int .i64 a1,.func (.func 91) #[] #[]] w fun e w'=>e=.returned (.tuple #[.int .i64 r1,.bool r2])∧Below w.heap.size w w':=by
 have aV:=Tryz.underlying50;have aF:=am hr0;have aY:=am hc0;clear hr0 hc0;have HB:=am (Below.refl w.heap.size w);have H:(gX.l0 k l0 a1 (l0.length:Int) 0 (l0.length:Int))=some (r1,r2):=h;clear h;have H':=am H;clear H;go_enter Tryz.func90,Tryz.ntmps90;go_wp2;go_loopg [9,10] k (fun kq v9 v10 w'=>∃ (aa:Int) (ac:Int),v9=.int .i64 aa∧v10=.int .i64 ac∧gL (gX.l0 kq l0 a1 (l0.length:Int) aa ac=some (r1,r2))∧gL (kq≤k)∧gL (Below w.heap.size w w'))
 case atStart=>exact ⟨(0),((l0.length:Int)),sm,sm,H',⟨Nat.le_refl _⟩,⟨bl HB.out⟩⟩
 case round =>
  clear H';obtain ⟨aa,ac,rfl,rfl,HA,aC,HB⟩:=hrel;cases gk with
  | zero=>exact absurd HA.out (by simp [gX.l0])
  | succ k1 =>
   have H:=HA.out;clear HA;simp only [gX.l0] at H;by_cases c4:aa<ac
   ·rw [if_pos c4] at H
    have aM:=decide_eq_true c4;clear c4;obtain ⟨ab,aq⟩:∃ j_:Int,(wrap64 ((IntKind.u64.wrap (wrap64 (aa+ac))) / 2))=j_:=⟨_,rfl⟩;replace H:(if 0≤(ab) then (if (ab)<(l0.length:Int) then ((nE.f ((gW l0 (ab)).f0) ((gW l0 (ab)).f1) a1).bind fun au=>(if au<0 then (gX.l0 k1 l0 a1 (l0.length:Int) (wrap64 ((ab)+1)) ac) else (gX.l0 k1 l0 a1 (l0.length:Int) aa ab))) else (none)) else (none))=some (r1,r2):=by first | (rw [aq] at H;exact H) | (simp only [aq] at H ⊢;exact H)
    have aR:(IntKind.i64.wrap ((IntKind.u64.wrap (wrap64 (aa+ac))) / 2))=ab:=(nA _).trans aq;by_cases c6:0≤(ab)
    case neg=>rw [if_neg c6] at H;exact absurd H (by simp)
    rw [if_pos c6] at H;have aW:=decide_eq_true c6;clear c6;by_cases c7:(ab)<(l0.length:Int)
    case neg=>rw [if_neg c7] at H;exact absurd H (by simp)
    rw [if_pos c7] at H;have aX:=decide_eq_true c7;clear c7;replace H:=Option.bind_eq_some_iff.mp H;obtain ⟨au,aL,H⟩:=H;try dsimp only at H
    have A8:=am aL;clear aL;by_cases c9:au<0
    ·rw [if_pos c9] at H
     have aN:=decide_eq_true c9;clear c9;have H':=am H;clear H;have ai:0≤((ab):Int):=of_decide_eq_true asm;have aj:(ab)<(l0.length:Int):=of_decide_eq_true asm;obtain ⟨aJ,aG,aH,az,ae,af,ag,ah⟩:=kZ aF.out (ab) ai aj;cases az;replace ae:=xc HB ae;replace af:=xc HB af;have ao:=am ah;have ap:=am ag;clear ah ag;replace ai:=eq_true ai;replace aj:=eq_true aj;go_wp2_with (first | (go_at_call 91;(with_reducible refine (nE.calls ((gW l0 (ab)).f0) _ _ ((gW l0 (ab)).f1) a1 au _ ?ak ?al A8.out).mono ?_);(case ak=>exact kc (Kd.iA ao.out HB.out));(case al=>exact ap.out);rintro e aZ ⟨rfl,hb⟩;replace HB:=xb HB hb;(try clear hb)));go_roundg k1
     case measure=>have:=aC.out;omega
     case rel=>exact ⟨(wrap64 ((ab)+1)),(ac),(by first | rfl | (simp;done) | (simp only [← aq] <;> (first | rfl | simp)) | (simp [*];done)),sm,H',⟨by have:=aC.out;omega⟩,⟨bl HB.out⟩⟩
    ·rw [if_neg c9] at H
     have aN:=decide_eq_false c9;clear c9;have H':=am H;clear H;have ai:0≤((ab):Int):=of_decide_eq_true asm;have aj:(ab)<(l0.length:Int):=of_decide_eq_true asm;obtain ⟨aJ,aG,aH,az,ae,af,ag,ah⟩:=kZ aF.out (ab) ai aj;cases az;replace ae:=xc HB ae;replace af:=xc HB af;have ao:=am ah;have ap:=am ag;clear ah ag;replace ai:=eq_true ai;replace aj:=eq_true aj;go_wp2_with (first | (go_at_call 91;(with_reducible refine (nE.calls ((gW l0 (ab)).f0) _ _ ((gW l0 (ab)).f1) a1 au _ ?ak ?al A8.out).mono ?_);(case ak=>exact kc (Kd.iA ao.out HB.out));(case al=>exact ap.out);rintro e a0 ⟨rfl,hb⟩;replace HB:=xb HB hb;(try clear hb)));go_roundg k1
     case measure=>have:=aC.out;omega
     case rel=>exact ⟨(aa),(ab),sm,(by first | rfl | (simp;done) | (simp only [← aq] <;> (first | rfl | simp)) | (simp [*];done)),H',⟨by have:=aC.out;omega⟩,⟨bl HB.out⟩⟩
   ·rw [if_neg c4] at H
    have aM:=decide_eq_false c4;clear c4;by_cases c12:aa<(l0.length:Int)
    ·rw [if_pos c12] at H
     have aK:=decide_eq_true c12;clear c12;by_cases c13:0≤aa
     case neg=>rw [if_neg c13] at H;exact absurd H (by simp)
     rw [if_pos c13] at H;have aS:=decide_eq_true c13;clear c13;by_cases c14:aa<(l0.length:Int)
     case neg=>rw [if_neg c14] at H;exact absurd H (by simp)
     rw [if_pos c14] at H;have aT:=decide_eq_true c14;clear c14;replace H:=Option.bind_eq_some_iff.mp H;obtain ⟨t138,aI,H⟩:=H;try dsimp only at H
     have aO:=am aI;clear aI;simp only [Option.some.injEq,Prod.mk.injEq] at H;obtain ⟨rfl,rfl⟩:=H;have aA:0≤(aa:Int):=of_decide_eq_true asm;have aB:aa<(l0.length:Int):=of_decide_eq_true asm;obtain ⟨aU,aP,aQ,e137,av,aw,ax,ay⟩:=kZ aF.out aa aA aB;cases e137;replace av:=xc HB av;replace aw:=xc HB aw;have aD:=am ay;have aE:=am ax;clear ay ax;replace aA:=eq_true aA;replace aB:=eq_true aB;go_wp2_with (first | (go_at_call 91;(with_reducible refine (nE.calls ((gW l0 aa).f0) _ _ ((gW l0 aa).f1) a1 t138 _ ?ak ?al aO.out).mono ?_);(case ak=>exact kc (Kd.iA aD.out HB.out));(case al=>exact aE.out);rintro e w16 ⟨rfl,hb⟩;replace HB:=xb HB hb;(try clear hb)));go_ret2;exact ⟨rt,bl HB.out⟩
    ·rw [if_neg c12] at H
     have aK:=decide_eq_false c12;clear c12;simp only [Option.some.injEq,Prod.mk.injEq] at H;obtain ⟨rfl,rfl⟩:=H;go_wp2;go_ret2;exact ⟨rt,bl HB.out⟩
def lG.f (k:Nat) (ac:Int) (ae:Int) (af:List (List (S38))) (ab:List (S50)) (a1:Int):Option (Int × Bool):=(gX.f k ab a1).bind fun aa=>(some (aa.1,aa.2))
theorem lG.mono:∀ a0 a1 a2 a3 a4 k,LeO (lG.f k a0 a1 a2 a3 a4) (lG.f (k+1) a0 a1 a2 a3 a4):=by
 intro a0 a1 a2 a3 a4 k;unfold lG.f;exact mo (an gX.mono trivial)
set_option maxHeartbeats 8000000 in
set_option maxRecDepth 100000 in
theorem lG.calls (k:Nat) (ag:Int) (ah:Int) (ai:Option Addr) (aj:Nat) (ab:List (List (S38))) (ac:Option Addr) (ae:Nat) (aa:List (S50)) (a1:Int) (r1:Int) (r2:Bool) (w:World) (ak:Kd.C (Kd.slice 38 k38) w ai ab.length ab) (al:ab.length≤aj) (ao:Kd.C k50 w ac aa.length aa) (ap:aa.length≤ae) (h:lG.f k ag ah ab aa a1=some (r1,r2)) :
 Calls Tryz.prog 71 #[.agg #[.int .i64 ag,.int .i64 ah,.slice ai ab.length aj,.slice ac aa.length ae],.int .i64 a1] w fun e w'=>e=.returned (.tuple #[.int .i64 r1,.bool r2])∧Below w.heap.size w w':=by
 have aN:=Tryz.underlying25;have aL:=am ak;have aM:=am al;clear ak al;have aw:=am ao;have ax:=am ap;clear ao ap;have HB:=am (Below.refl w.heap.size w);have H:((gX.f k aa a1).bind fun aq=>(some (aq.1,aq.2)))=some (r1,r2):=h;clear h;replace H:=Option.bind_eq_some_iff.mp H;obtain ⟨⟨aC,t141⟩,A30,H⟩:=H;try dsimp only at H
 have A3:=am A30;clear A30;simp only [Option.some.injEq,Prod.mk.injEq] at H;obtain ⟨rfl,rfl⟩:=H;go_enter Tryz.func71,Tryz.ntmps71;go_wp2_with (first | ((with_reducible refine iC (N:=2) rfl ?_);refine bx 2 25 #[.int .i64 ag,.int .i64 ah,.slice ai ab.length aj,.slice ac aa.length ae] ?_;intro ay hg w4 av hb;have af:=am (av);have az:=am ((bz hg HB.out:w.heap.size≤ay));have au:=az;replace HB:=xb HB hb;clear hb av hg;obtain ⟨aD,aE,aF,aG,aH,aI,aJ,aK⟩:=b4 af.out) | ((with_reducible refine gP (f:=90) rfl ?_);refine gl 9 Tryz.func90 #[.slice ac aa.length ae,.int .i64 a1,.func (.func 91) #[] #[]] ?_;(with_reducible refine (gX.calls k _ _ aa a1 aC t141 _ ?aA ?aB A3.out).mono ?_);(case aA=>exact kc (Kd.iA aw.out HB.out));(case aB=>exact ax.out);rintro e w6 ⟨rfl,hb⟩;refine ⟨_,rfl,?_⟩;replace af:=xk af hb;replace HB:=xb1 HB au hb;(try clear hb)));go_ret2;exact ⟨rt,bl1 HB.out au.out⟩
def bits_Mul64.f (a0:Int) (a1:Int):Option (Int × Int):=some (IntKind.u64.wrap ((IntKind.u64.wrap ((IntKind.u64.wrap ((a0 / 4294967296)*(a1 / 4294967296)))+((IntKind.u64.wrap ((IntKind.u64.wrap ((a0 / 4294967296)*(Go.bits .and .u64 a1 4294967295)))+((IntKind.u64.wrap ((Go.bits .and .u64 a0 4294967295)*(Go.bits .and .u64 a1 4294967295))) / 4294967296))) / 4294967296)))+((IntKind.u64.wrap ((Go.bits .and .u64 (IntKind.u64.wrap ((IntKind.u64.wrap ((a0 / 4294967296)*(Go.bits .and .u64 a1 4294967295)))+((IntKind.u64.wrap ((Go.bits .and .u64 a0 4294967295)*(Go.bits .and .u64 a1 4294967295))) / 4294967296))) 4294967295)+(IntKind.u64.wrap ((Go.bits .and .u64 a0 4294967295)*(a1 / 4294967296))))) / 4294967296)),IntKind.u64.wrap (a0*a1))
set_option maxHeartbeats 8000000 in
set_option maxRecDepth 100000 in
theorem bits_Mul64.calls (a0:Int) (a1:Int) (r1:Int) (r2:Int) (w:World) (h:bits_Mul64.f a0 a1=some (r1,r2)) :
 Calls Tryz.prog 92 #[.int .u64 a0,.int .u64 a1] w fun e w'=>e=.returned (.tuple #[.int .u64 r1,.int .u64 r2])∧iZ w w':=by
 have H:(some (IntKind.u64.wrap ((IntKind.u64.wrap ((IntKind.u64.wrap ((a0 / 4294967296)*(a1 / 4294967296)))+((IntKind.u64.wrap ((IntKind.u64.wrap ((a0 / 4294967296)*(Go.bits .and .u64 a1 4294967295)))+((IntKind.u64.wrap ((Go.bits .and .u64 a0 4294967295)*(Go.bits .and .u64 a1 4294967295))) / 4294967296))) / 4294967296)))+((IntKind.u64.wrap ((Go.bits .and .u64 (IntKind.u64.wrap ((IntKind.u64.wrap ((a0 / 4294967296)*(Go.bits .and .u64 a1 4294967295)))+((IntKind.u64.wrap ((Go.bits .and .u64 a0 4294967295)*(Go.bits .and .u64 a1 4294967295))) / 4294967296))) 4294967295)+(IntKind.u64.wrap ((Go.bits .and .u64 a0 4294967295)*(a1 / 4294967296))))) / 4294967296)),IntKind.u64.wrap (a0*a1)))=some (r1,r2):=h;clear h;simp only [Option.some.injEq,Prod.mk.injEq] at H;obtain ⟨rfl,rfl⟩:=H;go_enter Tryz.func92,Tryz.ntmps92;go_wp2;go_ret2;exact ⟨by first | rfl | (simp;done) | (simp [*];done),by repeat (first | exact iZ.refl _ | apply iZ.step)⟩
def jy.j0:Nat→Int→Bool→Bool→Option (Int × Int)
 | 0,_,_,_=>none
 | k+1,x0,x1,x6=>if x6=true then (some (wrap64 (IntKind.u64.wrap (-x0)),0)) else (if x1=true then (some (0,10)) else (if x0≤9223372036854775807 then (some (wrap64 (x0),0)) else (some (0,10))))
def jy.f (k:Nat) (a0:Int) (a1:Bool):Option (Int × Int):=if a1=true then (jy.j0 k a0 a1 (decide (a0≤9223372036854775808))) else (jy.j0 k a0 a1 false)
theorem jy.kT:∀ k,(∀ y0 y1 y2,LeO (jy.j0 k y0 y1 y2) (jy.j0 (k+1) y0 y1 y2))
 | 0=>fun _ _ _ r h=>by simp [jy.j0] at h
 | k+1=>by
  have aa:=jy.kT k
  ·intro y0 y1 y2
   unfold jy.j0;exact mo (an aa trivial)
theorem jy.mono:∀ a0 a1 k,LeO (jy.f k a0 a1) (jy.f (k+1) a0 a1):=by
 intro a0 a1 k;have aa:=jy.kT k;unfold jy.f;exact mo (an aa trivial)
set_option maxHeartbeats 8000000 in
set_option maxRecDepth 100000 in
theorem jy.calls (k:Nat) (a0:Int) (a1:Bool) (r1:Int) (r2:Int) (w:World) (h:jy.f k a0 a1=some (r1,r2)) :
 Calls Tryz.prog 94 #[.int .u64 a0,.bool a1] w fun e w'=>e=.returned (.tuple #[.int .i64 r1,.int .i64 r2])∧iZ w w':=by
 have H:(if a1=true then (jy.j0 k a0 a1 (decide (a0≤9223372036854775808))) else (jy.j0 k a0 a1 false))=some (r1,r2):=h;clear h;have ab:=am H;clear H;go_enter Tryz.func94,Tryz.ntmps94;go_upto_region 1 with (fail)
 go_cut [6] (fun v6 wc=>∃ (kq:Nat) (aa:Bool),v6=.bool aa∧gL (jy.j0 kq a0 a1 aa=some (r1,r2))∧gL (kq≤k)∧iZ w wc)
 case first =>
  have H:=ab.out;clear ab;by_cases c4:a1=true
  ·subst c4
   have H1:(jy.j0 k a0 true (decide (a0≤9223372036854775808)))=some (r1,r2):=by rw [if_pos rfl] at H;exact H
   clear H;have H:=H1;clear H1;have H':=am H;clear H;go_wp2;go_meet
   case rel=>exact ⟨_,(decide (a0≤9223372036854775808)),sm,H',⟨by first | omega | exact Nat.le_refl _⟩,by repeat (first | exact iZ.refl _ | apply iZ.step)⟩
  ·replace c4:=Bool.eq_false_iff.mpr c4
   subst c4;have H1:(jy.j0 k a0 false false)=some (r1,r2):=by rw [if_neg (show ¬ (false=true) by decide)] at H;exact H
   clear H;have H:=H1;clear H1;have H':=am H;clear H;go_wp2;go_meet
   case rel=>exact ⟨_,(false),sm,H',⟨by first | omega | exact Nat.le_refl _⟩,by repeat (first | exact iZ.refl _ | apply iZ.step)⟩
 case rest =>
  clear ab;obtain ⟨kq,aa,rfl,HA,HJ2,⟨ae,rfl⟩⟩:=hcut;cases kq with
  | zero=>exact absurd HA.out (by simp [jy.j0])
  | succ kj2 =>
   have H:=HA.out;clear HA;simp only [jy.j0] at H;by_cases c5:aa=true
   ·subst c5
    have H1:(some (wrap64 (IntKind.u64.wrap (-a0)),0))=some (r1,r2):=by rw [if_pos rfl] at H;exact H
    clear H;have H:=H1;clear H1;simp only [Option.some.injEq,Prod.mk.injEq] at H;obtain ⟨rfl,rfl⟩:=H;go_wp2;go_ret2;exact ⟨by first | rfl | (simp;done) | (simp [*];done),by repeat (first | exact iZ.refl _ | apply iZ.step)⟩
   ·replace c5:=Bool.eq_false_iff.mpr c5
    subst c5;have H1:(if a1=true then (some (0,10)) else (if a0≤9223372036854775807 then (some (wrap64 (a0),0)) else (some (0,10))))=some (r1,r2):=by rw [if_neg (show ¬ (false=true) by decide)] at H;exact H
    clear H;have H:=H1;clear H1;by_cases c6:a1=true
    ·subst c6
     have H1:(some (0,10))=some (r1,r2):=by rw [if_pos rfl] at H;exact H
     clear H;have H:=H1;clear H1;simp only [Option.some.injEq,Prod.mk.injEq] at H;obtain ⟨rfl,rfl⟩:=H;go_wp2;go_ret2;exact ⟨by first | rfl | (simp;done) | (simp [*];done),by repeat (first | exact iZ.refl _ | apply iZ.step)⟩
    ·replace c6:=Bool.eq_false_iff.mpr c6
     subst c6;have H1:(if a0≤9223372036854775807 then (some (wrap64 (a0),0)) else (some (0,10)))=some (r1,r2):=by rw [if_neg (show ¬ (false=true) by decide)] at H;exact H
     clear H;have H:=H1;clear H1;by_cases c7:a0≤9223372036854775807
     ·rw [if_pos c7] at H
      have ac:=decide_eq_true c7;clear c7;simp only [Option.some.injEq,Prod.mk.injEq] at H;obtain ⟨rfl,rfl⟩:=H;go_wp2;go_ret2;exact ⟨by first | rfl | (simp;done) | (simp [*];done),by repeat (first | exact iZ.refl _ | apply iZ.step)⟩
     ·rw [if_neg c7] at H
      have ac:=decide_eq_false c7;clear c7;simp only [Option.some.injEq,Prod.mk.injEq] at H;obtain ⟨rfl,rfl⟩:=H;go_wp2;go_ret2;exact ⟨by first | rfl | (simp;done) | (simp [*];done),by repeat (first | exact iZ.refl _ | apply iZ.step)⟩
def mP.f (a0:Int):Option (Int):=if a0<0 then (some (IntKind.u64.wrap (-(IntKind.u64.wrap (a0))))) else (some (IntKind.u64.wrap (a0)))
set_option maxHeartbeats 8000000 in
set_option maxRecDepth 100000 in
theorem mP.calls (a0:Int) (r:Int) (w:World) (h:mP.f a0=some r) :
 Calls Tryz.prog 93 #[.int .i64 a0] w fun e w'=>e=.returned (.int .u64 r)∧iZ w w':=by
 have H:(if a0<0 then (some (IntKind.u64.wrap (-(IntKind.u64.wrap (a0))))) else (some (IntKind.u64.wrap (a0))))=some r:=h;clear h;by_cases c2:a0<0
 ·rw [if_pos c2] at H
  have aa:=decide_eq_true c2;clear c2;obtain rfl:=Option.some.inj H;go_enter Tryz.func93,Tryz.ntmps93;go_wp2;go_ret;exact ⟨by first | rfl | (simp;done) | (simp [*];done),by repeat (first | exact iZ.refl _ | apply iZ.step)⟩
 ·rw [if_neg c2] at H
  have aa:=decide_eq_false c2;clear c2;obtain rfl:=Option.some.inj H;go_enter Tryz.func93,Tryz.ntmps93;go_wp2;go_ret;exact ⟨by first | rfl | (simp;done) | (simp [*];done),by repeat (first | exact iZ.refl _ | apply iZ.step)⟩
def nT.f (k:Nat) (a0:Int) (a1:Int):Option (Int × Int):=(mP.f a0).bind fun ac=>((mP.f a1).bind fun t143=>((bits_Mul64.f ac t143).bind fun aa=>(if aa.1=0 then ((jy.f k aa.2 ((decide (a0<0)) != (decide (a1<0)))).bind fun ab=>(some (ab.1,ab.2))) else (some (0,10)))))
theorem nT.mono:∀ a0 a1 k,LeO (nT.f k a0 a1) (nT.f (k+1) a0 a1):=by
 intro a0 a1 k;unfold nT.f;exact mo (an jy.mono trivial)
set_option maxHeartbeats 8000000 in
set_option maxRecDepth 100000 in
theorem nT.calls (k:Nat) (a0:Int) (a1:Int) (r1:Int) (r2:Int) (w:World) (h:nT.f k a0 a1=some (r1,r2)) :
 Calls Tryz.prog 72 #[.int .i64 a0,.int .i64 a1] w fun e w'=>e=.returned (.tuple #[.int .i64 r1,.int .i64 r2])∧iZ w w':=by
 have H:((mP.f a0).bind fun aa=>((mP.f a1).bind fun t143=>((bits_Mul64.f aa t143).bind fun ac=>(if ac.1=0 then ((jy.f k ac.2 ((decide (a0<0)) != (decide (a1<0)))).bind fun ae=>(some (ae.1,ae.2))) else (some (0,10))))))=some (r1,r2):=h;clear h;replace H:=Option.bind_eq_some_iff.mp H;obtain ⟨aa,af,H⟩:=H;try dsimp only at H
 have A3:=am af;clear af;replace H:=Option.bind_eq_some_iff.mp H;obtain ⟨t143,ag,H⟩:=H;try dsimp only at H
 have A4:=am ag;clear ag;replace H:=Option.bind_eq_some_iff.mp H;obtain ⟨⟨ab,t145⟩,A50,H⟩:=H;try dsimp only at H
 have A5:=am A50;clear A50;by_cases c6:ab=0
 ·rw [if_pos c6] at H
  have ah:=beq_iff_eq.mpr c6;have ai:=bne_eq_false_iff_eq.mpr c6;clear c6;replace H:=Option.bind_eq_some_iff.mp H;obtain ⟨⟨t146,aj⟩,A70,H⟩:=H;try dsimp only at H
  have A7:=am A70;clear A70;simp only [Option.some.injEq,Prod.mk.injEq] at H;obtain ⟨rfl,rfl⟩:=H;go_enter Tryz.func72,Tryz.ntmps72;go_wp2_with (first | ((with_reducible refine gP (f:=93) rfl ?_);refine gl 10 Tryz.func93 #[.int .i64 a0] ?_;(with_reducible refine (mP.calls a0 aa _ A3.out).mono ?_);rintro e w' ⟨rfl,⟨nd,rfl⟩⟩;refine ⟨_,rfl,?_⟩) | ((with_reducible refine gP (f:=93) rfl ?_);refine gl 12 Tryz.func93 #[.int .i64 a1] ?_;(with_reducible refine (mP.calls a1 t143 _ A4.out).mono ?_);rintro e w' ⟨rfl,⟨nd,rfl⟩⟩;refine ⟨_,rfl,?_⟩) | ((with_reducible refine gP (f:=92) rfl ?_);refine gl 13 Tryz.func92 #[.int .u64 aa,.int .u64 t143] ?_;(with_reducible refine (bits_Mul64.calls aa t143 ab t145 _ A5.out).mono ?_);rintro e w' ⟨rfl,⟨nd,rfl⟩⟩;refine ⟨_,rfl,?_⟩) | ((with_reducible refine gP (f:=94) rfl ?_);refine gl 24 Tryz.func94 #[.int .u64 t145,.bool ((decide (a0<0)) != (decide (a1<0)))] ?_;(with_reducible refine (jy.calls k t145 ((decide (a0<0)) != (decide (a1<0))) t146 aj _ A7.out).mono ?_);rintro e w' ⟨rfl,⟨nd,rfl⟩⟩;refine ⟨_,rfl,?_⟩));go_ret2;exact ⟨by first | rfl | (simp;done) | (simp [*];done),by repeat (first | exact iZ.refl _ | apply iZ.step)⟩
 ·rw [if_neg c6] at H
  have ah:(ab==0)=false:=beq_eq_false_iff_ne.mpr c6;have ai:(ab != 0)=true:=bne_iff_ne.mpr c6;simp only [Option.some.injEq,Prod.mk.injEq] at H;obtain ⟨rfl,rfl⟩:=H;go_enter Tryz.func72,Tryz.ntmps72;go_wp2_with (first | ((with_reducible refine gP (f:=93) rfl ?_);refine gl 10 Tryz.func93 #[.int .i64 a0] ?_;(with_reducible refine (mP.calls a0 aa _ A3.out).mono ?_);rintro e w' ⟨rfl,⟨nd,rfl⟩⟩;refine ⟨_,rfl,?_⟩) | ((with_reducible refine gP (f:=93) rfl ?_);refine gl 12 Tryz.func93 #[.int .i64 a1] ?_;(with_reducible refine (mP.calls a1 t143 _ A4.out).mono ?_);rintro e w' ⟨rfl,⟨nd,rfl⟩⟩;refine ⟨_,rfl,?_⟩) | ((with_reducible refine gP (f:=92) rfl ?_);refine gl 13 Tryz.func92 #[.int .u64 aa,.int .u64 t143] ?_;(with_reducible refine (bits_Mul64.calls aa t143 ab t145 _ A5.out).mono ?_);rintro e w' ⟨rfl,⟨nd,rfl⟩⟩;refine ⟨_,rfl,?_⟩));go_ret2;exact ⟨by first | rfl | (simp;done) | (simp [*];done),by repeat (first | exact iZ.refl _ | apply iZ.step)⟩
end Go.Proofs.YtmbmalkpmanaaaaGreat.P
