/- Lemmas for laws of chapter 7: what the functions that they reach compute. No condition of its own. -/
import Derived.Test.YtmbmalkpmanaaaaGreatYH4
import Derived.Test.YtmbmalkpmanaaaaGreatYH2
import Derived.Test.YtmbmalkpmanaaaaGreatYH7
import Derived.Test.YtmbmalkpmanaaaaGreatYH6
import Derived.Laws.EntriesVeiled
import Derived.WalkSpells
import Derived.Outline
namespace Go.Proofs.YtmbmalkpmanaaaaGreat.P
open Go.RowKit Go.Proofs.YtmbmalkpmanaaaaGreatW.iD Go.Proofs.YtmbmalkpmanaaaaGreatW.jA Go.Proofs.YtmbmalkpmanaaaaGreatW.jw
attribute [local go_sem] lS lT mG mH kU kV lU lV   -- for this text's walks alone
set_option linter.unusedVariables false
set_option linter.unusedSimpArgs false
def lD.f (k:Nat) (ab:Int) (ac:Int) (a1:Int) (a2:Int):Option (Int):=(jD.f k (wrap64 (a1 - ab)) a2).bind fun aa=>(some aa.1)
theorem lD.mono:∀ a0 a1 a2 a3 k,LeO (lD.f k a0 a1 a2 a3) (lD.f (k+1) a0 a1 a2 a3):=by
 intro a0 a1 a2 a3 k;unfold lD.f;exact mo (an jD.mono trivial)
set_option maxHeartbeats 8000000 in
set_option maxRecDepth 100000 in
theorem lD.calls (k:Nat) (aa:Int) (ab:Int) (a1:Int) (a2:Int) (r:Int) (w:World) (h:lD.f k aa ab a1 a2=some r) :
 Calls Tryz.prog 61 #[.agg #[.int .i64 aa,.int .i64 ab],.int .i64 a1,.int .i64 a2] w fun e w'=>e=.returned (.int .i64 r)∧Below w.heap.size w w':=by
 have av:=Tryz.underlying38;have HB:=am (Below.refl w.heap.size w);have H:((jD.f k (wrap64 (a1 - aa)) a2).bind fun ae=>(some ae.1))=some r:=h;clear h;replace H:=Option.bind_eq_some_iff.mp H;obtain ⟨⟨aj,ak,al⟩,A40,H⟩:=H;try dsimp only at H
 have A4:=am A40;clear A40;obtain rfl:=Option.some.inj H;go_enter Tryz.func61,Tryz.ntmps61;go_wp2_with (first | ((with_reducible refine iC (N:=3) rfl ?_);refine bx 3 38 #[.int .i64 aa,.int .i64 ab] ?_;intro af hg w5 ac hb;have ag:=am (ac);have ah:=am ((bz hg HB.out:w.heap.size≤af));have ai:=ah;replace HB:=xb HB hb;clear hb ac hg;obtain ⟨ao,ap,aq,au⟩:=b2 ag.out) | ((with_reducible refine gP (f:=58) rfl ?_);refine gl 16 Tryz.func58 #[.int .i64 (wrap64 (a1 - aa)),.int .i64 a2] ?_;(with_reducible refine (jD.calls k (wrap64 (a1 - aa)) a2 aj ak al _ A4.out).mono ?_);rintro e w' ⟨rfl,⟨nd,rfl⟩⟩;refine ⟨_,rfl,?_⟩));go_ret;exact ⟨rt,bl1 HB.out ai.out⟩
def iN.l0:Nat→Int→Int→Bool→List (List (S38))→Int→Int→Int→Int→List (List (S38))→List (S50)→Int→Option (Int × Bool)
 | 0,_,_,_,_,_,_,_,_,_,_,_=>none
 | k+1,x1,x8,x9,x16,x17,x18,x257000,x257001,x257002,x257003,x258000=>if x18<x17 then (if 0≤x18 then (if x18<(x16.length:Int) then ((jh.f (jr x16 x18)).bind fun aa=>(if aa.2.2=true then ((lD.f k aa.1 aa.2.1 x1 x257000).bind fun ab=>(if x9=true then (if (wrap64 ((wrap64 ((wrap64 ((wrap64 (ab*x257001))+x18)) - x8))*x258000))<0 then (iN.l0 k x1 (wrap64 ((wrap64 (ab*x257001))+x18)) true x16 x17 (wrap64 (x18+1)) x257000 x257001 x257002 x257003 x258000) else (iN.l0 k x1 x8 x9 x16 x17 (wrap64 (x18+1)) x257000 x257001 x257002 x257003 x258000)) else (iN.l0 k x1 (wrap64 ((wrap64 (ab*x257001))+x18)) true x16 x17 (wrap64 (x18+1)) x257000 x257001 x257002 x257003 x258000))) else (iN.l0 k x1 x8 x9 x16 x17 (wrap64 (x18+1)) x257000 x257001 x257002 x257003 x258000))) else (none)) else (none)) else (some (x8,x9))
def iN.f (k:Nat) (ab:Int) (ac:Int) (aa:List (List (S38))) (ae:List (S50)) (a1:Int)  : Option (Int × Bool):=iN.l0 k a1 0 false aa (aa.length:Int) 0 ab ac aa ae (-1)
theorem iN.kT:∀ k,(∀ y0 y1 y2 y3 y4 y5 y6 y7 y8 y9 aa,LeO (iN.l0 k y0 y1 y2 y3 y4 y5 y6 y7 y8 y9 aa) (iN.l0 (k+1) y0 y1 y2 y3 y4 y5 y6 y7 y8 y9 aa))
 | 0=>fun _ _ _ _ _ _ _ _ _ _ _ r h=>by simp [iN.l0] at h
 | k+1=>by
  have ab:=iN.kT k
  ·intro y0 y1 y2 y3 y4 y5 y6 y7 y8 y9 aa
   unfold iN.l0;exact mo (an ab (an lD.mono trivial))
theorem iN.mono:∀ a0 a1 a2 a3 a4 k,LeO (iN.f k a0 a1 a2 a3 a4) (iN.f (k+1) a0 a1 a2 a3 a4):=by
 intro a0 a1 a2 a3 a4 k;have aa:=iN.kT k;unfold iN.f;exact mo (an aa (an lD.mono trivial))
def iN.T7:Bool × List (List Nat × List Nat):=(true,[([],[]),([0],[0]),([],[]),([],[]),([],[]),([4],[4]),([1,2,3,5],[1,2,3,5]),([],[]),([7],[7]),([6,8],[6,8]),([],[]),([9,10],[9,10]),([11,6,0,1,2,3,4,5,6,7,8,9,10,11],[11])])
def iN.B7:List Nat:=[0,1,0,0,0,16,63,0,128,511,0,2047,4095]
theorem iN.aac:qc .any (opsOf Tryz.f75 7)=iN.T7:=by kernel_rfl
theorem iN.tN:l8 iN.T7.2 iN.B7=true:=by kernel_rfl
set_option maxHeartbeats 8000000 in
set_option maxRecDepth 100000 in
theorem iN.calls (k:Nat) (aq:Int) (au:Int) (a5:Option Addr) (aP:Nat) (af:List (List (S38))) (aQ:Option Addr) (aR:Nat) (ax:List (S50)) (a1:Int)  (r1:Int) (r2:Bool) (w:World) (ba:Kd.C (Kd.slice 38 k38) w a5 af.length af) (bb:af.length≤aP) (bd:Kd.C k50 w aQ ax.length ax) (be:ax.length≤aR) (h:iN.f k aq au af ax a1=some (r1,r2)) :
 Calls Tryz.prog 75 #[.agg #[.int .i64 aq,.int .i64 au,.slice a5 af.length aP,.slice aQ ax.length aR],.int .i64 a1,.agg #[.int .i64 (-1),.func (.func 60) #[] #[],.func (.func 61) #[] #[],.func (.func 62) #[] #[]]] w fun e w'=>e=.returned (.tuple #[.int .i64 r1,.bool r2])∧Below w.heap.size w w':=by
 have cD:=Tryz.underlying25;have cE:=Tryz.underlying61;have cF:=Tryz.underlying38;have a4:=am ba;have cd:=am bb;clear ba bb;have ce:=am bd;have cf:=am be;clear bd be;have HB:=am (Below.refl w.heap.size w);have H:(iN.l0 k a1 0 false af (af.length:Int) 0 aq au af ax (-1))=some (r1,r2):=h;clear h;have H':=am H;clear H;go_enter Tryz.func75,Tryz.ntmps75;go_wp2_with (first | ((with_reducible refine iC (N:=3) rfl ?_);refine bx 3 25 #[.int .i64 aq,.int .i64 au,.slice a5 af.length aP,.slice aQ ax.length aR] ?_;intro aj hg w4 aB hb;have aa:=am (aB);have br:=am ((bz hg HB.out:w.heap.size≤aj));have al:=br;replace HB:=xb HB hb;clear hb aB hg) | ((with_reducible refine iC (N:=5) rfl ?_);refine bx 5 61 #[.int .i64 (-1),.func (.func 60) #[] #[],.func (.func 61) #[] #[],.func (.func 62) #[] #[]] ?_;intro ak hg w5 aB hb;have ab:=am (aB);have bs:=am ((bz1 hg HB.out al.out:w.heap.size≤ak));have ap:=bs;replace HB:=xb1 HB al hb;have aV:=am ((nl hg aa.out:aj≠ak));have aW:=am ((ng hg aa.out:ak≠aj));replace aa:=xk aa hb;clear hb aB hg;have cG:=aV.out;have cH:=aW.out;obtain ⟨bg,bh,bi,bj,bk,bm,bn,bo⟩:=b4 aa.out))
 go_loopg [8,9,18] k (fun kq v8 v9 v18 w'=>∃ (aL:Int) (aX:Bool) (ae:Int),v8=.int .i64 aL∧v9=.bool aX∧v18=.int .i64 ae∧gL (iN.l0 kq a1 aL aX af (af.length:Int) ae aq au af ax (-1)=some (r1,r2))∧gL (kq≤k)∧gL (w'.heap[aj]? = some (.cells #[.int .i64 aq,.int .i64 au,(.slice a5 af.length aP),(.slice aQ ax.length aR)] 25 (0,0)))∧gL (w'.heap[ak]? = some (.cells #[.int .i64 (-1),(.func (.func 60) #[] #[]),(.func (.func 61) #[] #[]),(.func (.func 62) #[] #[])] 61 (0,0)))∧gL (Below w.heap.size w w'))
 case atStart=>exact ⟨(0),(false),(0),sm,sm,sm,H',⟨Nat.le_refl _⟩,⟨kp aa.out⟩,⟨kp ab.out⟩,⟨bl2 HB.out al.out ap.out⟩⟩
 case round =>
  clear H';try clear bg
  try clear bh
  try clear bi
  try clear bj
  try clear bk
  try clear bm
  try clear bn
  try clear bo
  obtain ⟨aL,aX,ae,rfl,rfl,rfl,HA,a3,aa,ab,HB⟩:=hrel;cases gk with
  | zero=>exact absurd HA.out (by simp [iN.l0])
  | succ k1 =>
   have H:=HA.out;clear HA;simp only [iN.l0] at H;by_cases c8:ae<(af.length:Int)
   ·rw [if_pos c8] at H
    have bu:=decide_eq_true c8;clear c8;by_cases c9:0≤ae
    case neg=>rw [if_neg c9] at H;exact absurd H (by simp)
    rw [if_pos c9] at H;have cI:=decide_eq_true c9;clear c9;by_cases c10:ae<(af.length:Int)
    case neg=>rw [if_neg c10] at H;exact absurd H (by simp)
    rw [if_pos c10] at H;have cg:=decide_eq_true c10;clear c10;replace H:=Option.bind_eq_some_iff.mp H;obtain ⟨⟨ah,ai,bv⟩,A110,H⟩:=H;try dsimp only at H
    have bf:=am A110;clear A110;by_cases c12:bv=true
    ·subst c12
     have H1:((lD.f k1 ah ai a1 aq).bind fun aH=>(if aX=true then (if (wrap64 ((wrap64 ((wrap64 ((wrap64 (aH*au))+ae)) - aL))*(-1)))<0 then (iN.l0 k1 a1 (wrap64 ((wrap64 (aH*au))+ae)) true af (af.length:Int) (wrap64 (ae+1)) aq au af ax (-1)) else (iN.l0 k1 a1 aL aX af (af.length:Int) (wrap64 (ae+1)) aq au af ax (-1))) else (iN.l0 k1 a1 (wrap64 ((wrap64 (aH*au))+ae)) true af (af.length:Int) (wrap64 (ae+1)) aq au af ax (-1))))=some (r1,r2):=by rw [if_pos rfl] at H;exact H
     clear H;have H:=H1;clear H1;replace H:=Option.bind_eq_some_iff.mp H;obtain ⟨aH,bp,H⟩:=H;try dsimp only at H
     have bq:=am bp;clear bp;by_cases c14:aX=true
     ·subst c14
      have H1:(if (wrap64 ((wrap64 ((wrap64 ((wrap64 (aH*au))+ae)) - aL))*(-1)))<0 then (iN.l0 k1 a1 (wrap64 ((wrap64 (aH*au))+ae)) true af (af.length:Int) (wrap64 (ae+1)) aq au af ax (-1)) else (iN.l0 k1 a1 aL true af (af.length:Int) (wrap64 (ae+1)) aq au af ax (-1)))=some (r1,r2):=by rw [if_pos rfl] at H;exact H
      clear H;have H:=H1;clear H1;by_cases c15:(wrap64 ((wrap64 ((wrap64 ((wrap64 (aH*au))+ae)) - aL))*(-1)))<0
      ·rw [if_pos c15] at H
       have a6:=decide_eq_true c15;(try simp only [Int.mul_one,Int.mul_neg,Int.add_zero] at a6);clear c15;have H':=am H;clear H;have aF:0≤(ae:Int):=of_decide_eq_true asm;have aG:ae<(af.length:Int):=of_decide_eq_true asm;obtain ⟨aK,aM,aN,e258,ay,az,aA⟩:=nS a4.out ae aF aG;cases e258;replace ay:=xc HB ay;have aI:=am aA;have aJ:=am az;clear aA az;replace aF:=eq_true aF;replace aG:=eq_true aG;try go_wp2_with (first | ((with_reducible refine gP (f:=15) rfl ?_);refine gl 25 Tryz.func15 #[.slice aM (jr af ae).length aN] ?_;(with_reducible refine (jh.calls _ _ (jr af ae) ah ai true _ ?aS ?aT bf.out).mono ?_);(case aS=>exact kc (Kd.iA aI.out HB.out));(case aT=>exact aJ.out);rintro e w16 ⟨rfl,hb⟩;refine ⟨_,rfl,?_⟩;replace aa:=xk aa hb;replace ab:=xk ab hb;replace HB:=xb2 HB al ap hb;(try clear hb)) | ((with_reducible refine iC (N:=12) rfl ?_);refine bx 12 38 #[.int .i64 0,.int .i64 0] ?_;intro ac hg a7 aB hb;have ag:=am (aB);have aU:=am ((bz2 hg HB.out al.out ap.out:w.heap.size≤ac));have aE:=aU;replace HB:=xb2 HB al ap hb;have av:=am ((nl hg aa.out:aj≠ac));have aC:=am ((ng hg aa.out:ac≠aj));replace aa:=xk aa hb;have aw:=am ((nl hg ab.out:ak≠ac));have aD:=am ((ng hg ab.out:ac≠ak));replace ab:=xk ab hb;clear hb aB hg;have ch:=aC.out;have ci:=av.out;have cj:=aD.out;have ck:=aw.out;obtain ⟨bw,bA,bB,bC⟩:=b2 ag.out))
       have aY:gL (((a7.setCell ⟨ac,0,none⟩ (.int .i64 ah)).setCell ⟨ac,1,none⟩ (.int .i64 ai)).heap[aj]? = some (.cells #[.int .i64 aq,.int .i64 au,.slice (some aK) af.length aP,.slice aQ ax.length aR] 25 (0,0))):=⟨kf aa.out av.out⟩;have aZ:gL (((a7.setCell ⟨ac,0,none⟩ (.int .i64 ah)).setCell ⟨ac,1,none⟩ (.int .i64 ai)).heap[ak]? = some (.cells #[.int .i64 (-1),.func (.func 60) #[] #[],.func (.func 61) #[] #[],.func (.func 62) #[] #[]] 61 (0,0))):=⟨kf ab.out aw.out⟩;have a0:gL (((a7.setCell ⟨ac,0,none⟩ (.int .i64 ah)).setCell ⟨ac,1,none⟩ (.int .i64 ai)).heap[ac]? = some (.cells #[.int .i64 ah,.int .i64 ai] 38 (0,0))):=⟨by (with_reducible repeat (first | refine gV ?_ _ | refine gQ ?_ | refine gM ?_ _));refine iT (cs:=#[.int .i64 ah,.int .i64 0]) ?_ 1 _ rfl;(with_reducible repeat (first | refine gV ?_ _ | refine gQ ?_ | refine gM ?_ _));refine iT (cs:=#[.int .i64 0,.int .i64 0]) ?_ 0 _ rfl;(with_reducible repeat (first | refine gV ?_ _ | refine gQ ?_ | refine gM ?_ _));exact ag.out⟩;have a2:gL (Below w.heap.size w ((a7.setCell ⟨ac,0,none⟩ (.int .i64 ah)).setCell ⟨ac,1,none⟩ (.int .i64 ai))):=⟨bl3 HB.out al.out ap.out aE.out⟩;(try clear aa);(try clear ab);(try clear ag);(try clear HB);generalize ((a7.setCell ⟨ac,0,none⟩ (.int .i64 ah)).setCell ⟨ac,1,none⟩ (.int .i64 ai))=b9 at aY aZ a0 a2 ⊢;have aa:=aY;have ab:=aZ;have ag:=a0;have HB:=a2;clear aY aZ a0 a2;replace aa:=am (gQ aa.out);replace ab:=am (gQ ab.out);replace ag:=am (gQ ag.out);replace HB:=am (iQ HB.out)
       refine lu (n:=13) (S:=fun w'=>w'.cell? ⟨ak,0,none⟩=some (.int .i64 (-1))∧w'.cell? ⟨ak,1,none⟩=some (.func (.func 60) #[] #[])∧w'.cell? ⟨ak,2,none⟩=some (.func (.func 61) #[] #[])∧w'.cell? ⟨ak,3,none⟩=some (.func (.func 62) #[] #[])∧w'.cell? ⟨ac,0,none⟩=some (.int .i64 ah)∧w'.cell? ⟨ac,1,none⟩=some (.int .i64 ai)∧w'.cell? ⟨aj,0,none⟩=some (.int .i64 aq)∧w'.cell? ⟨aj,1,none⟩=some (.int .i64 au)∧w'.cell? ⟨aj,2,none⟩=some (.slice (some aK) af.length aP)∧w'.cell? ⟨aj,3,none⟩=some (.slice aQ ax.length aR)) (ds:=[]) (rs false [13]) (by kernel_rfl) rfl rfl ⟨bc ab.out 0,bc ab.out 1,bc ab.out 2,bc ab.out 3,bc ag.out 0,bc ag.out 1,bc aa.out 0,bc aa.out 1,bc aa.out 2,bc aa.out 3⟩ (fun hHeld => ?_);refine jK iN.aac iN.tN (fun ao aO => ?_);generalize b9.drew=cJ at aa ab ag HB hHeld ⊢;refine px 0 30 (rs true [1,12]) ao.out ?_;refine px 3 33 (rs true [1,2,1,9]) ao.out ?_;refine px 4 34 (rs true [1,2,2,8]) ao.out ?_;refine px 7 37 (rs true [1,2,2,2,1,5]) ao.out ?_;refine px 10 40 (rs true [1,2,2,2,1,2,1,2]) ao.out ?_;refine tx 1 31 (rs true [2,1,2,2,1,2,1,2]) ao.out aO.out hHeld ?_;refine tx 2 32 (rs true [5,2,1,2,1,2]) ao.out aO.out hHeld ?_;refine tx 5 35 (rs true [6,1,1,2,1,2]) ao.out aO.out hHeld ?_;refine tx 8 38 (rs true [6,1,2,1,1,2]) ao.out aO.out hHeld ?_;refine ny (i:=6) (N:=some 36) (rs true [9,1,1,2]) rfl rfl (jM ao.out (by kernel_rfl)) (by decide) (fun K hK => ?_)
       first | refine lC Tryz.func61 (by kernel_rfl) rfl #[.agg #[.int .i64 ah,.int .i64 ai],.int .i64 a1,.int .i64 aq] (by rfl) rfl rfl ar ?_ | refine vN Tryz.func61 (by kernel_rfl) rfl #[.agg #[.int .i64 ah,.int .i64 ai],.int .i64 a1,.int .i64 aq] (by rfl) rfl rfl rfl ar ?_
       with_reducible refine (lD.calls k1 ah ai a1 aq aH _ bq.out).mono ?_
       rintro e cK ⟨rfl,hb⟩;refine ⟨_,rfl,?_⟩;replace aa:=xk aa hb;replace ab:=xk ab hb;replace ag:=xk ag hb;replace HB:=xb3 HB al ap aE hb;(try clear hb);refine hK.out _ _ ⟨bc ab.out 0,bc ab.out 1,bc ab.out 2,bc ab.out 3,bc ag.out 0,bc ag.out 1,bc aa.out 0,bc aa.out 1,bc aa.out 2,bc aa.out 3⟩ (fun hHeld => ?_);clear hK K;refine nx 36 ?_;refine px 9 39 (rs true [11,2]) ao.out ?_;refine px 11 41 (rs true [12,1]) ao.out ?_;refine px 12 14 (rs true [13]) ao.out ?_;refine mU (kI ao.out (by kernel_rfl)) ?_;have cm:=aW.out;have cn:=aV.out;obtain ⟨bD,bE,bF,bG,bH,bI,bJ,bK⟩:=b4 ab.out;try go_wp2
       go_roundg k1
       case measure=>have:=a3.out;omega
       case rel=>exact ⟨(wrap64 ((wrap64 (aH*au))+ae)),(true),(wrap64 (ae+1)),sm,sm,sm,H',⟨by have:=a3.out;omega⟩,⟨kp aa.out⟩,⟨kp ab.out⟩,⟨bl3 HB.out al.out ap.out aE.out⟩⟩
      ·rw [if_neg c15] at H
       have a6:=decide_eq_false c15;(try simp only [Int.mul_one,Int.mul_neg,Int.add_zero] at a6);clear c15;have H':=am H;clear H;have aF:0≤(ae:Int):=of_decide_eq_true asm;have aG:ae<(af.length:Int):=of_decide_eq_true asm;obtain ⟨aK,aM,aN,e258,ay,az,aA⟩:=nS a4.out ae aF aG;cases e258;replace ay:=xc HB ay;have aI:=am aA;have aJ:=am az;clear aA az;replace aF:=eq_true aF;replace aG:=eq_true aG;try go_wp2_with (first | ((with_reducible refine gP (f:=15) rfl ?_);refine gl 25 Tryz.func15 #[.slice aM (jr af ae).length aN] ?_;(with_reducible refine (jh.calls _ _ (jr af ae) ah ai true _ ?aS ?aT bf.out).mono ?_);(case aS=>exact kc (Kd.iA aI.out HB.out));(case aT=>exact aJ.out);rintro e cL ⟨rfl,hb⟩;refine ⟨_,rfl,?_⟩;replace aa:=xk aa hb;replace ab:=xk ab hb;replace HB:=xb2 HB al ap hb;(try clear hb)) | ((with_reducible refine iC (N:=12) rfl ?_);refine bx 12 38 #[.int .i64 0,.int .i64 0] ?_;intro ac hg a8 aB hb;have ag:=am (aB);have aU:=am ((bz2 hg HB.out al.out ap.out:w.heap.size≤ac));have aE:=aU;replace HB:=xb2 HB al ap hb;have av:=am ((nl hg aa.out:aj≠ac));have aC:=am ((ng hg aa.out:ac≠aj));replace aa:=xk aa hb;have aw:=am ((nl hg ab.out:ak≠ac));have aD:=am ((ng hg ab.out:ac≠ak));replace ab:=xk ab hb;clear hb aB hg;have co:=aC.out;have cp:=av.out;have cq:=aD.out;have cr:=aw.out;obtain ⟨bL,bM,bN,bO⟩:=b2 ag.out))
       have aY:gL (((a8.setCell ⟨ac,0,none⟩ (.int .i64 ah)).setCell ⟨ac,1,none⟩ (.int .i64 ai)).heap[aj]? = some (.cells #[.int .i64 aq,.int .i64 au,.slice (some aK) af.length aP,.slice aQ ax.length aR] 25 (0,0))):=⟨kf aa.out av.out⟩;have aZ:gL (((a8.setCell ⟨ac,0,none⟩ (.int .i64 ah)).setCell ⟨ac,1,none⟩ (.int .i64 ai)).heap[ak]? = some (.cells #[.int .i64 (-1),.func (.func 60) #[] #[],.func (.func 61) #[] #[],.func (.func 62) #[] #[]] 61 (0,0))):=⟨kf ab.out aw.out⟩;have a0:gL (((a8.setCell ⟨ac,0,none⟩ (.int .i64 ah)).setCell ⟨ac,1,none⟩ (.int .i64 ai)).heap[ac]? = some (.cells #[.int .i64 ah,.int .i64 ai] 38 (0,0))):=⟨by (with_reducible repeat (first | refine gV ?_ _ | refine gQ ?_ | refine gM ?_ _));refine iT (cs:=#[.int .i64 ah,.int .i64 0]) ?_ 1 _ rfl;(with_reducible repeat (first | refine gV ?_ _ | refine gQ ?_ | refine gM ?_ _));refine iT (cs:=#[.int .i64 0,.int .i64 0]) ?_ 0 _ rfl;(with_reducible repeat (first | refine gV ?_ _ | refine gQ ?_ | refine gM ?_ _));exact ag.out⟩;have a2:gL (Below w.heap.size w ((a8.setCell ⟨ac,0,none⟩ (.int .i64 ah)).setCell ⟨ac,1,none⟩ (.int .i64 ai))):=⟨bl3 HB.out al.out ap.out aE.out⟩;(try clear aa);(try clear ab);(try clear ag);(try clear HB);generalize ((a8.setCell ⟨ac,0,none⟩ (.int .i64 ah)).setCell ⟨ac,1,none⟩ (.int .i64 ai))=ca at aY aZ a0 a2 ⊢;have aa:=aY;have ab:=aZ;have ag:=a0;have HB:=a2;clear aY aZ a0 a2;replace aa:=am (gQ aa.out);replace ab:=am (gQ ab.out);replace ag:=am (gQ ag.out);replace HB:=am (iQ HB.out)
       refine lu (n:=13) (S:=fun w'=>w'.cell? ⟨ak,0,none⟩=some (.int .i64 (-1))∧w'.cell? ⟨ak,1,none⟩=some (.func (.func 60) #[] #[])∧w'.cell? ⟨ak,2,none⟩=some (.func (.func 61) #[] #[])∧w'.cell? ⟨ak,3,none⟩=some (.func (.func 62) #[] #[])∧w'.cell? ⟨ac,0,none⟩=some (.int .i64 ah)∧w'.cell? ⟨ac,1,none⟩=some (.int .i64 ai)∧w'.cell? ⟨aj,0,none⟩=some (.int .i64 aq)∧w'.cell? ⟨aj,1,none⟩=some (.int .i64 au)∧w'.cell? ⟨aj,2,none⟩=some (.slice (some aK) af.length aP)∧w'.cell? ⟨aj,3,none⟩=some (.slice aQ ax.length aR)) (ds:=[]) (rs false [13]) (by kernel_rfl) rfl rfl ⟨bc ab.out 0,bc ab.out 1,bc ab.out 2,bc ab.out 3,bc ag.out 0,bc ag.out 1,bc aa.out 0,bc aa.out 1,bc aa.out 2,bc aa.out 3⟩ (fun hHeld => ?_);refine jK iN.aac iN.tN (fun ao aO => ?_);generalize ca.drew=w32 at aa ab ag HB hHeld ⊢;refine px 0 30 (rs true [1,12]) ao.out ?_;refine px 3 33 (rs true [1,2,1,9]) ao.out ?_;refine px 4 34 (rs true [1,2,2,8]) ao.out ?_;refine px 7 37 (rs true [1,2,2,2,1,5]) ao.out ?_;refine px 10 40 (rs true [1,2,2,2,1,2,1,2]) ao.out ?_;refine tx 1 31 (rs true [2,1,2,2,1,2,1,2]) ao.out aO.out hHeld ?_;refine tx 2 32 (rs true [5,2,1,2,1,2]) ao.out aO.out hHeld ?_;refine tx 5 35 (rs true [6,1,1,2,1,2]) ao.out aO.out hHeld ?_;refine tx 8 38 (rs true [6,1,2,1,1,2]) ao.out aO.out hHeld ?_;refine ny (i:=6) (N:=some 36) (rs true [9,1,1,2]) rfl rfl (jM ao.out (by kernel_rfl)) (by decide) (fun K hK => ?_)
       first | refine lC Tryz.func61 (by kernel_rfl) rfl #[.agg #[.int .i64 ah,.int .i64 ai],.int .i64 a1,.int .i64 aq] (by rfl) rfl rfl ar ?_ | refine vN Tryz.func61 (by kernel_rfl) rfl #[.agg #[.int .i64 ah,.int .i64 ai],.int .i64 a1,.int .i64 aq] (by rfl) rfl rfl rfl ar ?_
       with_reducible refine (lD.calls k1 ah ai a1 aq aH _ bq.out).mono ?_
       rintro e cM ⟨rfl,hb⟩;refine ⟨_,rfl,?_⟩;replace aa:=xk aa hb;replace ab:=xk ab hb;replace ag:=xk ag hb;replace HB:=xb3 HB al ap aE hb;(try clear hb);refine hK.out _ _ ⟨bc ab.out 0,bc ab.out 1,bc ab.out 2,bc ab.out 3,bc ag.out 0,bc ag.out 1,bc aa.out 0,bc aa.out 1,bc aa.out 2,bc aa.out 3⟩ (fun hHeld => ?_);clear hK K;refine nx 36 ?_;refine px 9 39 (rs true [11,2]) ao.out ?_;refine px 11 41 (rs true [12,1]) ao.out ?_;refine px 12 14 (rs true [13]) ao.out ?_;refine mU (kI ao.out (by kernel_rfl)) ?_;have ct:=aW.out;have cu:=aV.out;obtain ⟨bP,bQ,bR,bS,bT,bU,bV,bW⟩:=b4 ab.out;try go_wp2
       go_roundg k1
       case measure=>have:=a3.out;omega
       case rel=>exact ⟨(aL),(true),(wrap64 (ae+1)),sm,sm,sm,H',⟨by have:=a3.out;omega⟩,⟨kp aa.out⟩,⟨kp ab.out⟩,⟨bl3 HB.out al.out ap.out aE.out⟩⟩
     ·replace c14:=Bool.eq_false_iff.mpr c14
      subst c14;have H1:(iN.l0 k1 a1 (wrap64 ((wrap64 (aH*au))+ae)) true af (af.length:Int) (wrap64 (ae+1)) aq au af ax (-1))=some (r1,r2):=by rw [if_neg (show ¬ (false=true) by decide)] at H;exact H
      clear H;have H:=H1;clear H1;have H':=am H;clear H;have aF:0≤(ae:Int):=of_decide_eq_true asm;have aG:ae<(af.length:Int):=of_decide_eq_true asm;obtain ⟨aK,aM,aN,e258,ay,az,aA⟩:=nS a4.out ae aF aG;cases e258;replace ay:=xc HB ay;have aI:=am aA;have aJ:=am az;clear aA az;replace aF:=eq_true aF;replace aG:=eq_true aG;try go_wp2_with (first | ((with_reducible refine gP (f:=15) rfl ?_);refine gl 25 Tryz.func15 #[.slice aM (jr af ae).length aN] ?_;(with_reducible refine (jh.calls _ _ (jr af ae) ah ai true _ ?aS ?aT bf.out).mono ?_);(case aS=>exact kc (Kd.iA aI.out HB.out));(case aT=>exact aJ.out);rintro e cN ⟨rfl,hb⟩;refine ⟨_,rfl,?_⟩;replace aa:=xk aa hb;replace ab:=xk ab hb;replace HB:=xb2 HB al ap hb;(try clear hb)) | ((with_reducible refine iC (N:=12) rfl ?_);refine bx 12 38 #[.int .i64 0,.int .i64 0] ?_;intro ac hg a9 aB hb;have ag:=am (aB);have aU:=am ((bz2 hg HB.out al.out ap.out:w.heap.size≤ac));have aE:=aU;replace HB:=xb2 HB al ap hb;have av:=am ((nl hg aa.out:aj≠ac));have aC:=am ((ng hg aa.out:ac≠aj));replace aa:=xk aa hb;have aw:=am ((nl hg ab.out:ak≠ac));have aD:=am ((ng hg ab.out:ac≠ak));replace ab:=xk ab hb;clear hb aB hg;have cv:=aC.out;have cw:=av.out;have cx:=aD.out;have cy:=aw.out;obtain ⟨bX,bY,bZ,b0⟩:=b2 ag.out))
      have aY:gL (((a9.setCell ⟨ac,0,none⟩ (.int .i64 ah)).setCell ⟨ac,1,none⟩ (.int .i64 ai)).heap[aj]? = some (.cells #[.int .i64 aq,.int .i64 au,.slice (some aK) af.length aP,.slice aQ ax.length aR] 25 (0,0))):=⟨kf aa.out av.out⟩;have aZ:gL (((a9.setCell ⟨ac,0,none⟩ (.int .i64 ah)).setCell ⟨ac,1,none⟩ (.int .i64 ai)).heap[ak]? = some (.cells #[.int .i64 (-1),.func (.func 60) #[] #[],.func (.func 61) #[] #[],.func (.func 62) #[] #[]] 61 (0,0))):=⟨kf ab.out aw.out⟩;have a0:gL (((a9.setCell ⟨ac,0,none⟩ (.int .i64 ah)).setCell ⟨ac,1,none⟩ (.int .i64 ai)).heap[ac]? = some (.cells #[.int .i64 ah,.int .i64 ai] 38 (0,0))):=⟨by (with_reducible repeat (first | refine gV ?_ _ | refine gQ ?_ | refine gM ?_ _));refine iT (cs:=#[.int .i64 ah,.int .i64 0]) ?_ 1 _ rfl;(with_reducible repeat (first | refine gV ?_ _ | refine gQ ?_ | refine gM ?_ _));refine iT (cs:=#[.int .i64 0,.int .i64 0]) ?_ 0 _ rfl;(with_reducible repeat (first | refine gV ?_ _ | refine gQ ?_ | refine gM ?_ _));exact ag.out⟩;have a2:gL (Below w.heap.size w ((a9.setCell ⟨ac,0,none⟩ (.int .i64 ah)).setCell ⟨ac,1,none⟩ (.int .i64 ai))):=⟨bl3 HB.out al.out ap.out aE.out⟩;(try clear aa);(try clear ab);(try clear ag);(try clear HB);generalize ((a9.setCell ⟨ac,0,none⟩ (.int .i64 ah)).setCell ⟨ac,1,none⟩ (.int .i64 ai))=cb at aY aZ a0 a2 ⊢;have aa:=aY;have ab:=aZ;have ag:=a0;have HB:=a2;clear aY aZ a0 a2;replace aa:=am (gQ aa.out);replace ab:=am (gQ ab.out);replace ag:=am (gQ ag.out);replace HB:=am (iQ HB.out)
      refine lu (n:=13) (S:=fun w'=>w'.cell? ⟨ak,0,none⟩=some (.int .i64 (-1))∧w'.cell? ⟨ak,1,none⟩=some (.func (.func 60) #[] #[])∧w'.cell? ⟨ak,2,none⟩=some (.func (.func 61) #[] #[])∧w'.cell? ⟨ak,3,none⟩=some (.func (.func 62) #[] #[])∧w'.cell? ⟨ac,0,none⟩=some (.int .i64 ah)∧w'.cell? ⟨ac,1,none⟩=some (.int .i64 ai)∧w'.cell? ⟨aj,0,none⟩=some (.int .i64 aq)∧w'.cell? ⟨aj,1,none⟩=some (.int .i64 au)∧w'.cell? ⟨aj,2,none⟩=some (.slice (some aK) af.length aP)∧w'.cell? ⟨aj,3,none⟩=some (.slice aQ ax.length aR)) (ds:=[]) (rs false [13]) (by kernel_rfl) rfl rfl ⟨bc ab.out 0,bc ab.out 1,bc ab.out 2,bc ab.out 3,bc ag.out 0,bc ag.out 1,bc aa.out 0,bc aa.out 1,bc aa.out 2,bc aa.out 3⟩ (fun hHeld => ?_);refine jK iN.aac iN.tN (fun ao aO => ?_);generalize cb.drew=cO at aa ab ag HB hHeld ⊢;refine px 0 30 (rs true [1,12]) ao.out ?_;refine px 3 33 (rs true [1,2,1,9]) ao.out ?_;refine px 4 34 (rs true [1,2,2,8]) ao.out ?_;refine px 7 37 (rs true [1,2,2,2,1,5]) ao.out ?_;refine px 10 40 (rs true [1,2,2,2,1,2,1,2]) ao.out ?_;refine tx 1 31 (rs true [2,1,2,2,1,2,1,2]) ao.out aO.out hHeld ?_;refine tx 2 32 (rs true [5,2,1,2,1,2]) ao.out aO.out hHeld ?_;refine tx 5 35 (rs true [6,1,1,2,1,2]) ao.out aO.out hHeld ?_;refine tx 8 38 (rs true [6,1,2,1,1,2]) ao.out aO.out hHeld ?_;refine ny (i:=6) (N:=some 36) (rs true [9,1,1,2]) rfl rfl (jM ao.out (by kernel_rfl)) (by decide) (fun K hK => ?_)
      first | refine lC Tryz.func61 (by kernel_rfl) rfl #[.agg #[.int .i64 ah,.int .i64 ai],.int .i64 a1,.int .i64 aq] (by rfl) rfl rfl ar ?_ | refine vN Tryz.func61 (by kernel_rfl) rfl #[.agg #[.int .i64 ah,.int .i64 ai],.int .i64 a1,.int .i64 aq] (by rfl) rfl rfl rfl ar ?_
      with_reducible refine (lD.calls k1 ah ai a1 aq aH _ bq.out).mono ?_
      rintro e cP ⟨rfl,hb⟩;refine ⟨_,rfl,?_⟩;replace aa:=xk aa hb;replace ab:=xk ab hb;replace ag:=xk ag hb;replace HB:=xb3 HB al ap aE hb;(try clear hb);refine hK.out _ _ ⟨bc ab.out 0,bc ab.out 1,bc ab.out 2,bc ab.out 3,bc ag.out 0,bc ag.out 1,bc aa.out 0,bc aa.out 1,bc aa.out 2,bc aa.out 3⟩ (fun hHeld => ?_);clear hK K;refine nx 36 ?_;refine px 9 39 (rs true [11,2]) ao.out ?_;refine px 11 41 (rs true [12,1]) ao.out ?_;refine px 12 14 (rs true [13]) ao.out ?_;refine mU (kI ao.out (by kernel_rfl)) ?_;try go_wp2
      go_roundg k1
      case measure=>have:=a3.out;omega
      case rel=>exact ⟨(wrap64 ((wrap64 (aH*au))+ae)),(true),(wrap64 (ae+1)),sm,sm,sm,H',⟨by have:=a3.out;omega⟩,⟨kp aa.out⟩,⟨kp ab.out⟩,⟨bl3 HB.out al.out ap.out aE.out⟩⟩
    ·replace c12:=Bool.eq_false_iff.mpr c12
     subst c12;have H1:(iN.l0 k1 a1 aL aX af (af.length:Int) (wrap64 (ae+1)) aq au af ax (-1))=some (r1,r2):=by rw [if_neg (show ¬ (false=true) by decide)] at H;exact H
     clear H;have H:=H1;clear H1;have H':=am H;clear H;have aF:0≤(ae:Int):=of_decide_eq_true asm;have aG:ae<(af.length:Int):=of_decide_eq_true asm;obtain ⟨aK,aM,aN,e258,ay,az,aA⟩:=nS a4.out ae aF aG;cases e258;replace ay:=xc HB ay;have aI:=am aA;have aJ:=am az;clear aA az;replace aF:=eq_true aF;replace aG:=eq_true aG;go_wp2_with (first | ((with_reducible refine gP (f:=15) rfl ?_);refine gl 25 Tryz.func15 #[.slice aM (jr af ae).length aN] ?_;(with_reducible refine (jh.calls _ _ (jr af ae) ah ai false _ ?aS ?aT bf.out).mono ?_);(case aS=>exact kc (Kd.iA aI.out HB.out));(case aT=>exact aJ.out);rintro e cQ ⟨rfl,hb⟩;refine ⟨_,rfl,?_⟩;replace aa:=xk aa hb;replace ab:=xk ab hb;replace HB:=xb2 HB al ap hb;(try clear hb)) | ((with_reducible refine iC (N:=12) rfl ?_);refine bx 12 38 #[.int .i64 0,.int .i64 0] ?_;intro ac hg cR aB hb;have ag:=am (aB);have aU:=am ((bz2 hg HB.out al.out ap.out:w.heap.size≤ac));have aE:=aU;replace HB:=xb2 HB al ap hb;have av:=am ((nl hg aa.out:aj≠ac));have aC:=am ((ng hg aa.out:ac≠aj));replace aa:=xk aa hb;have aw:=am ((nl hg ab.out:ak≠ac));have aD:=am ((ng hg ab.out:ac≠ak));replace ab:=xk ab hb;clear hb aB hg;have cz:=aC.out;have cA:=av.out;have cB:=aD.out;have cC:=aw.out;obtain ⟨b5,b6,b7,b8⟩:=b2 ag.out));go_roundg k1
     case measure=>have:=a3.out;omega
     case rel=>exact ⟨(aL),(aX),(wrap64 (ae+1)),sm,sm,sm,H',⟨by have:=a3.out;omega⟩,⟨kf aa.out av.out⟩,⟨kf ab.out aw.out⟩,⟨bl3 HB.out al.out ap.out aE.out⟩⟩
   ·rw [if_neg c8] at H
    have bu:=decide_eq_false c8;clear c8;simp only [Option.some.injEq,Prod.mk.injEq] at H;obtain ⟨rfl,rfl⟩:=H;go_wp2;go_ret2;exact ⟨rt,bl2 HB.out al.out ap.out⟩
def kM.f (k:Nat) (ab:Int) (ac:Int) (ae:List (List (S38))) (af:List (S50)) (a1:Int):Option (Int × Bool):=if a1≤(-1099511627776) then (some (0,false)) else ((iB.f k ab ac ae af (mn (wrap64 (a1 - 1)) 1099511627776) (-1)).bind fun aa=>(some (aa.1,aa.2)))
theorem kM.mono:∀ a0 a1 a2 a3 a4 k,LeO (kM.f k a0 a1 a2 a3 a4) (kM.f (k+1) a0 a1 a2 a3 a4):=by
 intro a0 a1 a2 a3 a4 k;unfold kM.f;exact mo (an iB.mono trivial)
set_option maxHeartbeats 8000000 in
set_option maxRecDepth 100000 in
theorem kM.calls (k:Nat) (ac:Int) (ae:Int) (aj:Option Addr) (ak:Nat) (aa:List (List (S38))) (al:Option Addr) (ao:Nat) (ab:List (S50)) (a1:Int) (r1:Int) (r2:Bool) (w:World) (aw:Kd.C (Kd.slice 38 k38) w aj aa.length aa) (ax:aa.length≤ak) (ay:Kd.C k50 w al ab.length ab) (az:ab.length≤ao) (h:kM.f k ac ae aa ab a1=some (r1,r2)) :
 Calls Tryz.prog 60 #[.agg #[.int .i64 ac,.int .i64 ae,.slice aj aa.length ak,.slice al ab.length ao],.int .i64 a1] w fun e w'=>e=.returned (.tuple #[.int .i64 r1,.bool r2])∧Below w.heap.size w w':=by
 have aV:=Tryz.underlying25;have aA:=am aw;have aB:=am ax;clear aw ax;have aC:=am ay;have aD:=am az;clear ay az;have HB:=am (Below.refl w.heap.size w);have H:(if a1≤(-1099511627776) then (some (0,false)) else ((iB.f k ac ae aa ab (mn (wrap64 (a1 - 1)) 1099511627776) (-1)).bind fun af=>(some (af.1,af.2))))=some (r1,r2):=h;clear h;by_cases c3:a1≤(-1099511627776)
 ·rw [if_pos c3] at H
  have aI:=decide_eq_true c3;clear c3;simp only [Option.some.injEq,Prod.mk.injEq] at H;obtain ⟨rfl,rfl⟩:=H;go_enter Tryz.func60,Tryz.ntmps60;go_wp2_with (first | ((with_reducible refine iC (N:=2) rfl ?_);refine bx 2 25 #[.int .i64 ac,.int .i64 ae,.slice aj aa.length ak,.slice al ab.length ao] ?_;intro au hg w4 ap hb;have ah:=am (ap);have av:=am ((bz hg HB.out:w.heap.size≤au));have ai:=av;replace HB:=xb HB hb;clear hb ap hg));go_ret2;exact ⟨rt,bl1 HB.out ai.out⟩
 ·rw [if_neg c3] at H
  have aI:=decide_eq_false c3;clear c3;obtain ⟨aq,ag⟩:∃ j_:Int,(mn (wrap64 (a1 - 1)) 1099511627776)=j_:=⟨_,rfl⟩;replace H:((iB.f k ac ae aa ab (aq) (-1)).bind fun af=>(some (af.1,af.2)))=some (r1,r2):=by first | (rw [ag] at H;exact H) | (simp only [ag] at H ⊢;exact H)
  (try (have aS:aq≤1099511627776:=by (rw [← ag];unfold mn;(repeat' split) <;> omega)))
  (try (have aT:aq≤64:=by omega))
  have aU:(if 1099511627776<(wrap64 (a1 - 1)) then 1099511627776 else (wrap64 (a1 - 1)))=aq:=ag;replace H:=Option.bind_eq_some_iff.mp H;obtain ⟨⟨t203,aJ⟩,A60,H⟩:=H;try dsimp only at H
  have A6:=am A60;clear A60;simp only [Option.some.injEq,Prod.mk.injEq] at H;obtain ⟨rfl,rfl⟩:=H;go_enter Tryz.func60,Tryz.ntmps60;go_wp2_with (first | ((with_reducible refine iC (N:=2) rfl ?_);refine bx 2 25 #[.int .i64 ac,.int .i64 ae,.slice aj aa.length ak,.slice al ab.length ao] ?_;intro au hg w7 ap hb;have ah:=am (ap);have av:=am ((bz hg HB.out:w.heap.size≤au));have ai:=av;replace HB:=xb HB hb;clear hb ap hg;obtain ⟨aK,aL,aM,aN,aO,aP,aQ,aR⟩:=b4 ah.out) | ((with_reducible refine gP (f:=76) rfl ?_);refine xw (some 12) rfl rfl Tryz.func76 (by kernel_rfl) rfl #[.agg #[.int .i64 ac,.int .i64 ae,.slice aj aa.length ak,.slice al ab.length ao],.int .i64 aq,.int .i64 (-1)] rfl (by (try simp only [List.map_toArray,List.map_cons,List.map_nil]);first | done | (simp only [ag];rfl) | rfl | (simp only [List.length_drop,List.length_take];rfl)) ?_;(with_reducible refine (iB.calls k ac ae _ _ aa _ _ ab aq (-1) t203 aJ _ ?aE ?aF ?aG ?aH A6.out).mono ?_);(case aE=>exact kc (Kd.iA aA.out HB.out));(case aF=>exact aB.out);(case aG=>exact kc (Kd.iA aC.out HB.out));(case aH=>exact aD.out);rintro e w9 ⟨rfl,hb⟩;refine ⟨_,rfl,?_⟩;replace ah:=xk ah hb;replace HB:=xb1 HB ai hb;(try clear hb)));go_ret2;exact ⟨by first | rfl | (simp [jV,jW] <;> rfl) | (simp only [← ag];first | rfl | (simp [jV,jW] <;> rfl)) | (simp [*,jV,jW] <;> rfl),bl1 HB.out ai.out⟩
end Go.Proofs.YtmbmalkpmanaaaaGreat.P
namespace Go.Proofs.YtmbmalkpmanaaaaGreat.P
set_option linter.unusedVariables false
set_option linter.unusedSimpArgs false
open Go.RowKit Go.Proofs.YtmbmalkpmanaaaaGreatW.iD Go.Proofs.YtmbmalkpmanaaaaGreatW.jA Go.Proofs.YtmbmalkpmanaaaaGreatW.jw
def je.l1:Nat→Int→Bool→Int→Int→Int→List (List S38)→List Gr→Option (Int × Bool)
  | 0,_,_,_,_,_,_,_=>none
  | k+1,i,ok,beyond,p,c,core,odd=>if ok=true then (if beyond<2 then ((kC.f k p c core [] i).bind fun g=>if g.2=0 then if rO i=true then if qp (nK odd) i=0 then some (i,true) else (kM.f k p c core [] i).bind fun n=>je.l1 k n.1 n.2 beyond p c core odd else none else (kM.f k p c core [] i).bind fun n=>je.l1 k n.1 n.2 (wrap64 (beyond+1)) p c core odd) else some (0,false)) else some (0,false)
def je.f (k:Nat) (p c:Int) (core:List (List S38)) (odd:List Gr) (t:Int):Option (Int × Bool) :=
  if odd.length<1000000000∧odd.all (fun g=>rO g.f0)=true then (iN.f k p c core odd t).bind fun a=>if a.2=true then (kM.f k p c core [] (wrap64 (a.1 - (-1)))).bind fun n=>je.l1 k n.1 n.2 0 p c core odd else some (0,false) else none
theorem je.kT:∀ (k:Nat) (i:Int) (ok:Bool) (b p c:Int) (core:List (List S38)) (odd:List Gr),LeO (je.l1 k i ok b p c core odd) (je.l1 (k+1) i ok b p c core odd)
  | 0,_,_,_,_,_,_,_=>fun r h=>by simp [je.l1] at h
  | k+1,i,ok,b,p,c,core,odd=>by
    have ih:=je.kT k;unfold je.l1;repeat' first
      | (with_reducible exact ih _ _ _ _ _ _ _)
      | (with_reducible exact kC.mono _ _ _ _ _ _)
      | (with_reducible exact kM.mono _ _ _ _ _ _)
      | (with_reducible exact LeO.refl _)
      | (with_reducible exact LeO.none _)
      | (with_reducible refine LeO.ite ?_ ?_)
      | (with_reducible refine LeO.bind ?_ (fun _ => ?_))
theorem je.mono (p c:Int) (core:List (List S38)) (odd:List Gr) (t:Int) (k:Nat):LeO (je.f k p c core odd t) (je.f (k+1) p c core odd t):=by
  unfold je.f;repeat' first
    | (with_reducible exact je.kT _ _ _ _ _ _ _ _)
    | (with_reducible exact iN.mono _ _ _ _ _ _)
    | (with_reducible exact kM.mono _ _ _ _ _ _)
    | (with_reducible exact LeO.refl _)
    | (with_reducible exact LeO.none _)
    | (with_reducible refine LeO.ite ?_ ?_)
    | (with_reducible refine LeO.bind ?_ (fun _ => ?_))
set_option maxHeartbeats 8000000 in
set_option maxRecDepth 100000 in
theorem je.calls (k:Nat) (af:Int) (ag:Int) (ah:Option Addr) (ai:Nat) (ac:List (List (S38))) (ak:Option Addr) (al:Nat) (aa:List (S50)) (a1:Int)  (r1:Int) (r2:Bool) (w:World) (ay:Kd.C (Kd.slice 38 k38) w ah ac.length ac) (az:ac.length≤ai) (aA:Kd.C k50 w ak aa.length aa) (aB:aa.length≤al) (h:je.f k af ag ac aa a1=some (r1,r2)) :
    Calls Tryz.prog 55 #[.agg #[.int .i64 af,.int .i64 ag,.slice ah ac.length ai,.slice ak aa.length al],.int .i64 a1,.agg #[.int .i64 (-1),.func (.func 60) #[] #[],.func (.func 61) #[] #[],.func (.func 62) #[] #[]]] w fun e w'=>e=.returned (.tuple #[.int .i64 r1,.bool r2])∧Below w.heap.size w w':=by
  have hmm:=@run_makeMap Tryz.prog;have HR2:=gL.mk ay;have ax:=gL.mk az;have HR3:=gL.mk aA;have aK:=gL.mk aB;unfold je.f at h;by_cases hlen:aa.length<1000000000∧aa.all (fun g=>rO g.f0)=true
  case neg=>rw [if_neg hlen] at h;cases h
  rw [if_pos hlen] at h;obtain ⟨⟨i0,ok0⟩,hpl,h⟩:=Option.bind_eq_some_iff.mp h;have HP:=gL.mk hpl;have HL:=gL.mk hlen;have H:=gL.mk h;clear ay az aA aB h hpl hlen;go_enter Tryz.func55,Tryz.ntmps55;go_wp2_with fail;refine (iN.calls k af ag ah ai ac ak al aa a1 i0 ok0 _ ?_ ax.out ?_ aK.out HP.out).mono ?_
  · exact Kd.iA HR2.out (by repeat (first | exact Below.refl _ _ | apply jm))
  · exact Kd.iA HR3.out (by repeat (first | exact Below.refl _ _ | apply jm))
  rintro e w1 ⟨rfl,hb1⟩;have HB1:=gL.mk (((((Below.refl w.heap.size w).alloc (Nat.le_refl _) _).alloc (by simp) _).alloc (by simp;try omega) _).trans (hb1.mono (by simp;try omega)));have ao:gL (w1.heap[w.heap.size]? = some (.cells #[.int .i64 af,.int .i64 ag,.slice ah ac.length ai,.slice ak aa.length al] 25 (0,0))):=⟨gU (gM (gM (nu w _) _) _) hb1⟩;have ae:gL (w1.heap[w.heap.size+1]? = some (.cells #[.int .i64 (-1),.func (.func 60) #[] #[],.func (.func 61) #[] #[],.func (.func 62) #[] #[]] 61 (0,0))):=⟨by have:=gU (gM (nu (w.alloc _) _) _) hb1;simpa using this⟩;have ab:gL (w1.heap[w.heap.size+1+1]? = some (.cells #[.int .i64 af,.int .i64 ag,.slice ah ac.length ai,.slice none 0 0] 25 (0,0))):=⟨by have:=gU (nu ((w.alloc _).alloc _) _) hb1;simpa using this⟩;have SZ:gL (w.heap.size+3≤w1.heap.size):=⟨by have:=hb1.size;simp at this;omega⟩;clear hb1;cases ok0
  · go_wp2
    have h:=H.out;simp at h;obtain ⟨rfl,rfl⟩:=h;go_ret2;exact ⟨rfl,HB1.out⟩
  · have hc3:(w1.alloc (.map #[] 0)).cell? ⟨w.heap.size,3,none⟩=some (.slice ak aa.length al):=(iY (gM ao.out _) 3).trans rfl
    have hf3:=kQ (gM ao.out (.map #[] 0)) 3;go_wp2_with fail;clear hc3 hf3;have HX:=H.out;rw [if_pos trivial] at HX;obtain ⟨⟨n1,n2⟩,hn,HX⟩:=Option.bind_eq_some_iff.mp HX;have HN:=gL.mk hn;have H2:=gL.mk HX;clear H HX hn;go_loopw [37] (fun v wr=>∃ m:Nat,gL (m≤aa.length)∧v=.int .i64 (m:Int)∧gL (wr.heap[w.heap.size]? = some (.cells #[.int .i64 af,.int .i64 ag,.slice ah ac.length ai,.slice ak aa.length al] 25 (0,0)))∧gL (wr.heap[w.heap.size+1]? = some (.cells #[.int .i64 (-1),.func (.func 60) #[] #[],.func (.func 61) #[] #[],.func (.func 62) #[] #[]] 61 (0,0)))∧gL (wr.heap[w.heap.size+1+1]? = some (.cells #[.int .i64 af,.int .i64 ag,.slice ah ac.length ai,.slice none 0 0] 25 (0,0)))∧gL (qw wr w1.heap.size (nK (aa.take m)))∧gL (Below w.heap.size w wr)) (fun v _=>aa.length - (intOf v).toNat)
    case atStart=>exact ⟨0,⟨Nat.zero_le _⟩,rfl,⟨gM ao.out _⟩,⟨gM ae.out _⟩,⟨gM ab.out _⟩,⟨qw.made w1⟩,⟨HB1.out.alloc HB1.out.size _⟩⟩
    case round =>
      clear ao ae ab HB1;obtain ⟨m,hm,rfl,ao,ae,ab,OM,HB⟩:=hrel;by_cases hlt:m<aa.length
      · obtain ⟨ad,A1,c1,e,hx0,hx1,hl1,hi1⟩:=kZ HR3.out (m:Int) (by omega) (by omega)
        subst e;have hy:gW aa (m:Int)=aa[m]:=by simp [gW,hlt]
        have hwf:rO (gW aa (m:Int)).f0=true:=by
          rw [hy];exact List.all_eq_true.1 HL.out.2 _ (List.getElem_mem hlt)
        have htk:nK (aa.take (m+1))=nK (aa.take m)++[(gW aa (m:Int)).f0]:=by
          rw [hy,List.take_succ_eq_append_getElem hlt];exact List.map_append
        have hln:(nK (aa.take m)).length<maxLen:=by simp only [nK,List.length_map,List.length_take];have:=HL.out.1;unfold maxLen;omega
        have aE:=gL.mk htk;have ap:=gL.mk (uy hwf);have aL:=gL.mk hln;have aF:=gL.mk hlt;have hw:wrap64 ((m:Int)+1)=((m+1:Nat):Int):=by have:=HL.out.1;unfold wrap64;omega
        have HW:=gL.mk hw;clear hy hwf htk hln hw;replace hx0:=(HB.out.cell (World.block_lt_of_cell? w _ hx0)).trans hx0;replace hx1:=(HB.out.cell (World.block_lt_of_cell? w _ hx1)).trans hx1;have p0:0≤(m:Int):=by omega
        have p1:(m:Int)<(aa.length:Int):=by omega
        obtain ⟨x,hx⟩:∃ x:Int,(m:Int)=x:=⟨_,rfl⟩;rw [hx] at p0 p1 hx0 hx1 aE ap HW ⊢;have aM:=gL.mk hx;clear hx hlt;have p2:decide (x<(aa.length:Int))=true:=decide_eq_true p1;replace p0:=eq_true p0;replace p1:=eq_true p1;go_wp2_with (first
          | (at_lookup;refine qw.lookup (b:=w1.heap.size) (l:=nK (aa.take m)) (qw.heap OM.out (Below.heap_alloc wr _ _ OM.out.lt)) rfl _ _ rfl rfl _ ap.out rfl ?_)
          | (at_mapUpdate;refine qw.update (b:=w1.heap.size) (l:=nK (aa.take m)) (qw.heap OM.out (Below.heap_alloc wr _ _ OM.out.lt)) rfl _ _ _ rfl rfl aL.out _ ap.out rfl rfl ?_;intro w4 aG aH;have aN:=gL.mk aG;have aC:=gL.mk aH;clear aG aH))
        go_roundw
        case rel =>
          have hne:∀ g,g<w.heap.size+3→some g≠some w1.heap.size:=fun g hg e=>by have:=SZ.out;injection e;omega
          exact ⟨m+1,⟨aF.out⟩,by rw [HW.out],⟨lg (gM ao.out _) aC.out (hne _ (by omega))⟩,⟨lg (gM ae.out _) aC.out (hne _ (by omega))⟩,⟨lg (gM ab.out _) aC.out (hne _ (by omega))⟩,
            ⟨by rw [aE.out];exact aN.out⟩,⟨(HB.out.alloc HB.out.size _).grown aC.out (HB.out.alloc HB.out.size _).size (fun j hj=>by cases hj;have:=SZ.out;omega)⟩⟩
        case measure=>have:=aF.out;have:=HW.out;have:=aM.out;simp only [intOf];omega
      · have aJ:m=aa.length:=by have:=hm.out;omega
        subst aJ;have aD:gL (qw wr w1.heap.size (nK aa)):=⟨by have:=OM.out;rwa [List.take_length] at this⟩;clear OM hlt hm;have hc0:=(iY ae.out 0).trans rfl;have hc1:=(iY ae.out 1).trans rfl;have h80:=(iY ab.out 0).trans rfl;have aq:=(iY ab.out 1).trans rfl;have au:=(iY ab.out 2).trans rfl;have av:=(iY ab.out 3).trans rfl;have p2:decide ((aa.length:Int)<(aa.length:Int))=false:=by simp
        go_wp2_with fail;refine (kM.calls k af ag ah ai ac none 0 [] _ n1 n2 _ (Kd.iA HR2.out HB.out) ax.out (Kd.uE _ _) (Nat.le_refl _) HN.out).mono ?_;rintro e w5 ⟨rfl,hb5⟩;have n5:=gL.mk (gU ae.out hb5);have n8:=gL.mk (gU ab.out hb5);have nm:=gL.mk (qw.heap aD.out (hb5.block _ aD.out.lt));have nb:=gL.mk (kR HB.out hb5);clear ao ae ab aD HB hc0 hc1 h80 aq au av hb5 p2;go_wp2_with fail;go_loopg [9,10,14] k (fun kq v9 v10 v14 w'=>∃ (i:Int) (ok:Bool) (aw:Int),v9=.int .i64 i∧v10=.bool ok∧v14=.int .i64 aw∧gL (je.l1 kq i ok aw af ag ac aa=some (r1,r2))∧gL (kq≤k)∧gL (w'.heap[w.heap.size+1]? = some (.cells #[.int .i64 (-1),.func (.func 60) #[] #[],.func (.func 61) #[] #[],.func (.func 62) #[] #[]] 61 (0,0)))∧gL (w'.heap[w.heap.size+1+1]? = some (.cells #[.int .i64 af,.int .i64 ag,.slice ah ac.length ai,.slice none 0 0] 25 (0,0)))∧gL (qw w' w1.heap.size (nK aa))∧gL (Below w.heap.size w w'))
        case atStart=>exact ⟨n1,n2,0,rfl,rfl,rfl,H2,⟨Nat.le_refl _⟩,n5,n8,nm,nb⟩
        case round =>
          clear n5 n8 nm nb H2 HN;obtain ⟨i,ok,aw,rfl,rfl,rfl,HA,aI,ae,ab,OM,HB⟩:=hrel;cases gk with
          | zero=>exact absurd HA.out (by simp [je.l1])
          | succ k1 =>
            have hc0:=(iY ae.out 0).trans rfl;have hc1:=(iY ae.out 1).trans rfl;have h80:=(iY ab.out 0).trans rfl;have aq:=(iY ab.out 1).trans rfl;have au:=(iY ab.out 2).trans rfl;have av:=(iY ab.out 3).trans rfl;have H:=HA.out;clear HA;simp only [je.l1] at H;cases ok
            · simp at H
              obtain ⟨rfl,rfl⟩:=H;go_wp2;all_goals (go_ret2;exact ⟨rfl,HB.out⟩)
            · rw [if_pos rfl] at H
              by_cases cb:aw<2
              · rw [if_pos cb] at H
                obtain ⟨⟨l,e⟩,hg,H⟩:=Option.bind_eq_some_iff.mp H;have aO:decide (aw<2)=true:=decide_eq_true cb;clear cb;have HG:=gL.mk hg;have H':=gL.mk H;clear hg H;go_wp2_with fail;refine (kC.calls k1 af ag ah ai ac none 0 [] i l e _ (Kd.iA HR2.out HB.out) ax.out (Kd.uE _ _) (Nat.le_refl _) HG.out).mono ?_;rintro e' w6 ⟨v,rfl,hR,hb6⟩;have n5:=gL.mk (gU ae.out hb6);have n8:=gL.mk (gU ab.out hb6);have nm:=gL.mk (qw.heap OM.out (hb6.block _ OM.out.lt));have nb:=gL.mk (kR HB.out hb6);clear ae ab OM HB hc0 hc1 h80 aq au av hb6 hR;have ae:=n5;have ab:=n8;have OM:=nm;have HB:=nb;clear n5 n8 nm nb;have hc0:=(iY ae.out 0).trans rfl;have hc1:=(iY ae.out 1).trans rfl;have h80:=(iY ab.out 0).trans rfl;have aq:=(iY ab.out 1).trans rfl;have au:=(iY ab.out 2).trans rfl;have av:=(iY ab.out 3).trans rfl;have H:=H'.out;clear H';by_cases ce:e=0
                · subst ce
                  rw [if_pos rfl] at H;by_cases cf:rO i=true
                  case neg=>rw [if_neg cf] at H;cases H
                  rw [if_pos cf] at H;have ap:=gL.mk (uy cf);clear cf;by_cases cz:qp (nK aa) i=0
                  · rw [if_pos cz] at H
                    simp only [Option.some.injEq,Prod.mk.injEq] at H;obtain ⟨e1,rfl⟩:=H;have E1:=gL.mk e1;clear e1;have aP:(qp (nK aa) i==0)=true:=by simpa using cz
                    have aQ:decide (qp (nK aa) i=0)=true:=by simpa using cz
                    go_wp2_with (at_lookup;refine qw.lookup (b:=w1.heap.size) (l:=nK aa) OM.out rfl _ _ rfl rfl _ ap.out rfl ?_);go_ret2;exact ⟨by simp [E1.out],HB.out⟩
                  · rw [if_neg cz] at H
                    have aP:(qp (nK aa) i==0)=false:=by simpa using cz
                    have aQ:decide (qp (nK aa) i=0)=false:=by simpa using cz
                    clear cz;obtain ⟨⟨m1,m2⟩,hn,H⟩:=Option.bind_eq_some_iff.mp H;have HN:=gL.mk hn;have H':=gL.mk H;clear hn H;go_wp2_with (first | (at_lookup;refine qw.lookup (b:=w1.heap.size) (l:=nK aa) OM.out rfl _ _ rfl rfl _ ap.out rfl ?_) | fail);refine (kM.calls k1 af ag ah ai ac none 0 [] _ m1 m2 _ (Kd.iA HR2.out HB.out) ax.out (Kd.uE _ _) (Nat.le_refl _) HN.out).mono ?_;rintro e w7 ⟨rfl,aj⟩;have n5:=gL.mk (gU ae.out aj);have n8:=gL.mk (gU ab.out aj);have nm:=gL.mk (qw.heap OM.out (aj.block _ OM.out.lt));have nb:=gL.mk (kR HB.out aj);clear ae ab OM HB hc0 hc1 h80 aq au av aj;go_wp2;go_roundg k1
                    case measure=>exact Nat.lt_succ_self _
                    case rel=>exact ⟨m1,m2,_,rfl,rfl,rfl,H',⟨Nat.le_of_succ_le aI.out⟩,n5,n8,nm,nb⟩
                · rw [if_neg ce] at H
                  have aR:(e != 0)=true:=by simpa using ce
                  have aS:(e==0)=false:=by simpa using ce
                  clear ce;obtain ⟨⟨m1,m2⟩,hn,H⟩:=Option.bind_eq_some_iff.mp H;have HN:=gL.mk hn;have H':=gL.mk H;clear hn H;go_wp2_with fail;refine (kM.calls k1 af ag ah ai ac none 0 [] _ m1 m2 _ (Kd.iA HR2.out HB.out) ax.out (Kd.uE _ _) (Nat.le_refl _) HN.out).mono ?_;rintro e w7 ⟨rfl,aj⟩;have n5:=gL.mk (gU ae.out aj);have n8:=gL.mk (gU ab.out aj);have nm:=gL.mk (qw.heap OM.out (aj.block _ OM.out.lt));have nb:=gL.mk (kR HB.out aj);clear ae ab OM HB hc0 hc1 h80 aq au av aj;go_wp2;go_roundg k1
                  case measure=>exact Nat.lt_succ_self _
                  case rel=>exact ⟨m1,m2,_,rfl,rfl,rfl,H',⟨Nat.le_of_succ_le aI.out⟩,n5,n8,nm,nb⟩
              · rw [if_neg cb] at H
                have aO:decide (aw<2)=false:=decide_eq_false cb;clear cb;cases H;go_wp2;all_goals (go_ret2;exact ⟨rfl,HB.out⟩)
end Go.Proofs.YtmbmalkpmanaaaaGreat.P
