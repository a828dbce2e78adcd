/- Lemmas for laws of chapter 7: what the functions that they reach compute. No condition of its own. -/
import Derived.Test.YtmbmalkpmanaaaaGreatYH4
import Derived.Test.YtmbmalkpmanaaaaGreatYH2
namespace Go.Proofs.YtmbmalkpmanaaaaGreat.P
open Go.RowKit Go.Proofs.YtmbmalkpmanaaaaGreatW.iD Go.Proofs.YtmbmalkpmanaaaaGreatW.jA Go.Proofs.YtmbmalkpmanaaaaGreatW.jw
attribute [local go_sem] lS lT mG mH kU kV lU lV   -- for this text's walks alone
set_option linter.unusedVariables false
set_option linter.unusedSimpArgs false
mutual
def iF.l0:Nat→List (List (S38))→Int→Int→Int→Int→List (List (S38))→List (S50)→Int→Int→List (List (S38))→Option (Int × Int × (List (List (S38))) × (List (S50)))
 | 0,_,_,_,_,_,_,_,_,_,_=>none
 | k+1,x14,x15,x16,x319000,x319001,x319002,x319003,x321000,x321001,x321002=>if x16<x15 then (if 0≤x16 then (if x16<(x14.length:Int) then ((lM.f (jr x14 x16)).bind fun aa=>(if x321002.length<5864062014805 then (iF.l0 k x14 x15 (wrap64 (x16+1)) x319000 x319001 x319002 x319003 x321000 x321001 (x321002++[aa])) else (none))) else (none)) else (none)) else (iF.l1 k x319003 (x319003.length:Int) 0 x321000 x321001 x321002 ([]:List (S50)))
def iF.l1:Nat→List (S50)→Int→Int→Int→Int→List (List (S38))→List (S50)→Option (Int × Int × (List (List (S38))) × (List (S50)))
 | 0,_,_,_,_,_,_,_=>none
 | k+1,x29,x30,x31,x321000,x321001,x321002,x321003=>if x31<x30 then (if 0≤x31 then (if x31<(x29.length:Int) then ((lM.f ((gW x29 x31).f1)).bind fun aa=>(if x321003.length<4398046511104 then (iF.l1 k x29 x30 (wrap64 (x31+1)) x321000 x321001 x321002 (x321003++[(⟨(gW x29 x31).f0,aa⟩:S50)])) else (none))) else (none)) else (none)) else (some (x321000,x321001,x321002,x321003))
end
def iF.f (k:Nat) (ab:Int) (ac:Int) (aa:List (List (S38))) (ae:List (S50)):Option (Int × Int × (List (List (S38))) × (List (S50))):=iF.l0 k aa (aa.length:Int) 0 ab ac aa ae ab ac ([]:List (List (S38)))
def iF.T5:Bool × List (List Nat × List Nat):=(true,[([],[]),([0],[0]),([],[]),([2],[2]),([3],[3]),([1,4,3],[1,4]),([0,1,2,3,4,5],[]),([6,5,5,0,1,2,3,4,5],[5,6])])
def iF.B5:List Nat:=[0,1,0,4,12,31,63,127]
theorem iF.aer:qc .any (opsOf Tryz.f7 5)=iF.T5:=by kernel_rfl
theorem iF.aa2:l8 iF.T5.2 iF.B5=true:=by kernel_rfl
def iF.T10:Bool × List (List Nat × List Nat):=(true,[([],[]),([0],[0]),([],[]),([2],[2]),([],[]),([4],[4]),([5],[5]),([3,6],[3,6]),([7],[7]),([1,8,6],[1,8]),([0,1,2,3,4,5,6,7,8,9],[]),([10,9,9,0,1,2,3,4,5,6,7,8,9],[9,10])])
def iF.B10:List Nat:=[0,1,0,4,0,16,48,124,252,511,1023,2047]
theorem iF.ae5:qc .any (opsOf Tryz.f7 10)=iF.T10:=by kernel_rfl
theorem iF.aes:l8 iF.T10.2 iF.B10=true:=by kernel_rfl
set_option maxHeartbeats 8000000 in
set_option maxRecDepth 100000 in
theorem iF.calls (k:Nat) (aj:Int) (al:Int) (aZ:Option Addr) (aQ:Nat) (aw:List (List (S38))) (a2:Option Addr) (aR:Nat) (ae:List (S50)) (r1:Int) (r2:Int) (r3:List (List (S38))) (r4:List (S50)) (w:World) (bK:Kd.C (Kd.slice 38 k38) w aZ aw.length aw) (bL:aw.length≤aQ) (bM:Kd.C k50 w a2 ae.length ae) (bN:ae.length≤aR) (h:iF.f k aj al aw ae=some (r1,r2,r3,r4)) :
 Calls Tryz.prog 7 #[.agg #[.int .i64 aj,.int .i64 al,.slice aZ aw.length aQ,.slice a2 ae.length aR]] w fun e w'=>∃ v2_ v3_:Value,e=.returned (.agg #[.int .i64 r1,.int .i64 r2,v2_,v3_])∧Kd.S (Kd.slice 38 k38) 27 w' w.heap.size (fun _=>True) v2_ r3∧Kd.S k50 50 w' w.heap.size (fun _=>True) v3_ r4∧Below w.heap.size w w':=by
 have em:=Tryz.underlying25;have en:=Tryz.underlying50;have cZ:=am bK;have dY:=am bL;clear bK bL;have c0:=am bM;have dZ:=am bN;clear bM bN;have HB:=am (Below.refl w.heap.size w);have H:(iF.l0 k aw (aw.length:Int) 0 aj al aw ae aj al ([]:List (List (S38))))=some (r1,r2,r3,r4):=h;clear h;have H':=am H;clear H;go_enter Tryz.func7,Tryz.ntmps7
 go_wp2_with (first | ((with_reducible refine iC (N:=1) rfl ?_);refine bx 1 25 #[.int .i64 aj,.int .i64 al,.slice aZ aw.length aQ,.slice a2 ae.length aR] ?_;intro aJ hg w2 aM hb;have af:=am (aM);have c1:=am ((bz hg HB.out:w.heap.size≤aJ));have av:=c1;replace HB:=xb HB hb;clear hb aM hg) | ((with_reducible refine iC (N:=2) rfl ?_);refine bx 2 25 #[.int .i64 0,.int .i64 0,.slice none 0 0,.slice none 0 0] ?_;intro au hg w3 aM hb;have ai:=am (aM);have da:=am ((bz1 hg HB.out av.out:w.heap.size≤au));have aA:=da;replace HB:=xb1 HB av hb;have aT:=am ((nl hg af.out:aJ≠au));have aU:=am ((ng hg af.out:au≠aJ));replace af:=xk af hb;clear hb aM hg;have eo:=aT.out;have ep:=aU.out;obtain ⟨cm,cn,co,cp,cq,cr,ct,cu⟩:=b4 af.out) | ((with_reducible refine iC (N:=3) rfl ?_);refine bx 3 25 #[.int .i64 0,.int .i64 0,.slice none 0 0,.slice none 0 0] ?_;intro ao hg w6 aM hb;have aa:=am (aM);have db:=am ((bz2 hg HB.out av.out aA.out:w.heap.size≤ao));have aD:=db;replace HB:=xb2 HB av aA hb;have aE:=am ((nl hg af.out:aJ≠ao));have aK:=am ((ng hg af.out:ao≠aJ));replace af:=xk af hb;have aG:=am ((nl hg ai.out:au≠ao));have aN:=am ((ng hg ai.out:ao≠au));replace ai:=xk ai hb;clear hb aM hg;have eq:=aK.out;have er:=aE.out;have es:=aN.out;have et:=aG.out;obtain ⟨cv,cw,cx,cy,cz,cA,cB,cC⟩:=b4 aa.out;obtain ⟨bW,bX,bY,bZ,b0,b5,b6,b7⟩:=b4 af.out))
 go_loopg [16] k (fun kq v16 w'=>∃ (aI:Int) (ak:List (List (S38))) (ap:Value),v16=.int .i64 aI∧gL (iF.l0 kq aw (aw.length:Int) aI aj al aw ae aj al ak=some (r1,r2,r3,r4))∧gL (kq≤k)∧gL (Kd.S (Kd.slice 38 k38) 27 w' w.heap.size (fun _=>True) ap ak)∧gL (w'.heap[aJ]? = some (.cells #[.int .i64 aj,.int .i64 al,(.slice aZ aw.length aQ),(.slice a2 ae.length aR)] 25 (0,0)))∧gL (w'.heap[au]? = some (.cells #[.int .i64 0,.int .i64 0,(.slice none 0 0),(.slice none 0 0)] 25 (0,0)))∧gL (w'.heap[ao]? = some (.cells #[.int .i64 aj,.int .i64 al,ap,(.slice none 0 0)] 25 (0,0)))∧gL (Below w.heap.size w w'))
 case atStart=>exact ⟨(0),(([]:List (List (S38)))),(.slice none 0 0),sm,H',⟨Nat.le_refl _⟩,⟨by first | exact Kd.oz _ _ _ _ _ | exact Kd.oD _ _ _ _ _ | exact Kd.nJ _ _ _ _ _ | exact Kd.ow _ _ _ _ _ | exact Kd.nM _ _ _ _ _⟩,⟨kf af.out aE.out⟩,⟨kf ai.out aG.out⟩,⟨by (with_reducible repeat (first | refine gV ?_ _ | refine gQ ?_ | refine gM ?_ _));refine iT (cs:=#[.int .i64 aj,.int .i64 al,.slice none 0 0,.slice none 0 0]) ?_ 3 _ rfl;(with_reducible repeat (first | refine gV ?_ _ | refine gQ ?_ | refine gM ?_ _));refine iT (cs:=#[.int .i64 aj,.int .i64 al,.slice none 0 0,.slice none 0 0]) ?_ 2 _ rfl;(with_reducible repeat (first | refine gV ?_ _ | refine gQ ?_ | refine gM ?_ _));refine iT (cs:=#[.int .i64 aj,.int .i64 0,.slice none 0 0,.slice none 0 0]) ?_ 1 _ rfl;(with_reducible repeat (first | refine gV ?_ _ | refine gQ ?_ | refine gM ?_ _));refine iT (cs:=#[.int .i64 0,.int .i64 0,.slice none 0 0,.slice none 0 0]) ?_ 0 _ rfl;(with_reducible repeat (first | refine gV ?_ _ | refine gQ ?_ | refine gM ?_ _));exact aa.out⟩,⟨bl3 HB.out av.out aA.out aD.out⟩⟩
 case round =>
  clear H';try clear bW
  try clear bX
  try clear bY
  try clear bZ
  try clear cm
  try clear cn
  try clear co
  try clear cp
  try clear cv
  try clear cw
  try clear cx
  try clear cy
  try clear b0
  try clear b5
  try clear b6
  try clear b7
  try clear cq
  try clear cr
  try clear ct
  try clear cu
  try clear cz
  try clear cA
  try clear cB
  try clear cC
  obtain ⟨aI,ak,ap,rfl,HA,bO,ab,af,ai,aa,HB⟩:=hrel;cases gk with
  | zero=>exact absurd HA.out (by simp [iF.l0])
  | succ k1 =>
   have H:=HA.out;clear HA;simp only [iF.l0] at H;by_cases c11:aI<(aw.length:Int)
   ·rw [if_pos c11] at H
    have bP:=decide_eq_true c11;clear c11;by_cases c12:0≤aI
    case neg=>rw [if_neg c12] at H;exact absurd H (by simp)
    rw [if_pos c12] at H;have d0:=decide_eq_true c12;clear c12;by_cases c13:aI<(aw.length:Int)
    case neg=>rw [if_neg c13] at H;exact absurd H (by simp)
    rw [if_pos c13] at H;have d1:=decide_eq_true c13;clear c13;replace H:=Option.bind_eq_some_iff.mp H;obtain ⟨ba,cD,H⟩:=H;try dsimp only at H
    have dT:=am cD;clear cD;by_cases c15:ak.length<5864062014805
    case neg=>rw [if_neg c15] at H;exact absurd H (by simp)
    rw [if_pos c15] at H;have dc:=am c15;clear c15;obtain ⟨bq,a0⟩:∃ y_:List (List (S38)),y_=(ak++[ba]):=⟨_,rfl⟩;replace H:(iF.l0 k1 aw (aw.length:Int) (wrap64 (aI+1)) aj al aw ae aj al bq)=some (r1,r2,r3,r4):=by first | (rw [a0];with_reducible exact H) | (have bb:=(Option.bind_some _ _).symm.trans H;rw [a0];with_reducible exact bb) | (have bb:=(Option.bind_some _ _).symm.trans H;with_reducible exact bb) | with_reducible exact H | (rw [a0];exact H) | exact H
    have dd:=am a0;clear a0;have H':=am H;clear H;have bC:0≤(aI:Int):=of_decide_eq_true asm;have bD:aI<(aw.length:Int):=of_decide_eq_true asm;obtain ⟨de,cE,cF,e321,bh,bi,bj⟩:=nS cZ.out aI bC bD;cases e321;replace bh:=xc HB bh;have b8:=am bj;have b9:=am bi;clear bj bi;replace bC:=eq_true bC;replace bD:=eq_true bD;try go_wp2
    replace ab:=am (Kd.kG ab.out);replace af:=am (gQ af.out);replace ai:=am (gQ ai.out);replace aa:=am (gQ aa.out);replace HB:=am (iQ HB.out);refine lu (n:=8) (S:=fun w'=>w'.cell? ⟨ao,0,none⟩=some (.int .i64 aj)∧w'.cell? ⟨ao,1,none⟩=some (.int .i64 al)∧w'.cell? ⟨ao,2,none⟩=some (ap)∧w'.cell? ⟨ao,3,none⟩=some (.slice none 0 0)) (ds:=[7]) (rs false [8]) (by kernel_rfl) rfl rfl ⟨bc aa.out 0,bc aa.out 1,bc aa.out 2,bc aa.out 3⟩ (fun hHeld => ?_);refine jK iF.aer iF.aa2 (fun aH bw => ?_);generalize wr.drew=w16 at ab af ai aa HB hHeld ⊢;refine px 0 20 (rs true [1,7]) aH.out ?_;refine px 2 22 (rs true [1,1,1,5]) aH.out ?_;refine tx 1 21 (rs true [3,5]) aH.out bw.out hHeld ?_;refine ny (i:=3) (N:=some 23) (rs true [4,4]) rfl rfl (jM aH.out (by kernel_rfl)) (by decide) (fun K hK => ?_);refine lC Tryz.func24 (by kernel_rfl) rfl #[.slice cE (jr aw aI).length cF] (by rfl) rfl rfl ar ?_;with_reducible refine (lM.calls _ _ (jr aw aI) ba _ ?br ?bs dT.out).mono ?_
    (case br=>exact kc (Kd.iA b8.out HB.out))
    (case bs=>exact b9.out)
    rintro e eA ⟨eu,rfl,ho0,hb⟩;refine ⟨_,rfl,?_⟩;replace ab:=am (Kd.rZ (by (with_reducible repeat (first | apply Kd.jR | apply Kd.jS | apply Kd.kG));exact ab.out) (Kd.kS ho0) hb);have a8:=am (Kd.kE ho0 (iL (bl3 HB.out av.out aA.out aD.out)));replace af:=xk af hb;replace ai:=xk ai hb;replace aa:=xk aa hb;replace HB:=xb3 HB av aA aD hb;(try clear hb);(try clear ho0);obtain ⟨cG,cH,cI⟩:=Kd.jT a8.out;(first | subst cI | (injection cI with aV bd aW;have be:=aV.symm;have bf:=aW.symm;clear aV bd aW;subst be;subst bf));refine hK.out _ _ ⟨bc aa.out 0,bc aa.out 1,bc aa.out 2,bc aa.out 3⟩ (fun hHeld => ?_);clear hK K;refine nx 23 ?_;refine ny (i:=4) (N:=some 24) (rs true [5,3]) rfl rfl (jM aH.out (by kernel_rfl)) (by decide) (fun K hK => ?_);refine xA (w1 := ?_) (v := ?_) (by rfl) rfl ?_ ?_;rotate_left 2
    ·go_simp
     constructor
     ·rfl
     ·rfl
    refine hK.out _ _ ⟨(iY (gM aa.out _) 0).trans rfl,(iY (gM aa.out _) 1).trans rfl,(iY (gM aa.out _) 2).trans rfl,(iY (gM aa.out _) 3).trans rfl⟩ (fun hHeld => ?_);clear hK K;refine nx 24 ?_;refine ny (i:=5) (N:=some 25) (rs true [6,2]) rfl rfl (jM aH.out (by kernel_rfl)) (by decide) (fun K hK => ?_);refine Kd.r9 (Kd.slice 38 k38) (w0:=w) w.heap.size (by rfl) (.tmp 21) (.tmp 24) 22 27 (.slice none 0 0) 24 rfl Tryz.underlying22 zq rfl (by decide) (by omega) ap ak ba [.slice cG ba.length cH] (fun _=>True) (fun k_=>some k_=(.slice cG ba.length cH:Value).ownBlock) rfl rfl ?aP (fun k_ cJ=>((Kd.kD (ok':=fun k_=>((fun _=>True)) k_∧some k_≠(ap:Value).ownBlock) (Kd.qb (a8.out) (Kd.uM ab.out) (by decide)) (fun k_ hk=>⟨trivial,hk.2⟩))).1 k_ cJ.symm) ?aF ?aO ?aB ?aS ?aL ?_;(case aP=>exact Kd.aeR (Kd.kD (Kd.uL rfl (Kd.kD (ok':=fun k_=>((fun _=>True)) k_∧some k_≠(ap:Value).ownBlock) (Kd.qb (a8.out) (Kd.uM ab.out) (by decide)) (fun k_ hk=>⟨trivial,hk.2⟩))) (fun _ h_=>h_)));(case aB=>exact (bl3 HB.out av.out aA.out aD.out));(case aF=>exact (fun _ _=>trivial));(case aO=>exact (by (with_reducible repeat (first | apply Kd.jR | apply Kd.jS | apply Kd.kG));exact Kd.mg ab.out (fun k_ hk=>⟨trivial,fun e_=>hk.2 e_⟩)));(case aS=>exact (iL (bl3 HB.out av.out aA.out aD.out)));(case aL=>have:=dc.out;omega);intro ev dU ho hb hg hat;rw [← dd.out] at ho
    replace af:=am (lg (g:=aJ) (o:=.cells #[.int .i64 aj,.int .i64 al,.slice (some de) aw.length aQ,.slice a2 ae.length aR] 25 (0,0)) (kp af.out) hg (Kd.adS ab.out af.out (by decide)));replace ai:=am (lg (g:=au) (o:=.cells #[.int .i64 0,.int .i64 0,.slice none 0 0,.slice none 0 0] 25 (0,0)) (kp ai.out) hg (Kd.adS ab.out ai.out (by decide)));replace aa:=am (lg (g:=ao) (o:=.cells #[.int .i64 aj,.int .i64 al,ap,.slice none 0 0] 25 (0,0)) (kp aa.out) hg (Kd.adS ab.out aa.out (by decide)));replace HB:=am (hb);have bQ:=am (ho);clear ab a8;clear ho hb hg hat;obtain ⟨cK,cL,cM⟩:=Kd.sZ bQ.out;(first | subst cM | (injection cM with aV bd aW;have be:=aV.symm;have bf:=aW.symm;clear aV bd aW;subst be;subst bf));refine hK.out _ _ ⟨bc aa.out 0,bc aa.out 1,bc aa.out 2,bc aa.out 3⟩ (fun hHeld => ?_);clear hK K;refine nx 25 ?_;refine px 6 26 (rs true [7,1]) aH.out ?_;refine yx (i:=7) (N:=none) (rs true [8]) rfl rfl (jM aH.out (by kernel_rfl)) (by decide) (fun K hK => ?_);have ew:dU.cell? ⟨ao,2,none⟩=some (ap):=bc aa.out 2;have d2:=kQ aa.out 2;have dm:=aE.out;have dp:=aG.out;have dq:=aK.out;have dr:=aN.out;refine abQ (w1 := ?_) (by rfl) rfl ?_ ?_;rotate_left
    ·go_simp
     rfl
    refine hK.out _ _ ?_;clear hK K;refine mU (kI aH.out (by kernel_rfl)) ?_;try go_wp2
    go_roundg k1
    case measure=>have:=bO.out;omega
    case rel=>exact ⟨(wrap64 (aI+1)),(bq),(.slice cK bq.length cL),sm,H',⟨by have:=bO.out;omega⟩,⟨by (with_reducible repeat (first | apply Kd.jR | apply Kd.jS | apply Kd.kG));exact Kd.mg (Kd.mq (p:=⟨ao,2,none⟩) (Kd.qj bQ.out aa.out (by decide)) (fun _ hk=>hk.2) (.slice cK bq.length cL)) (fun _ hk=>trivial)⟩,⟨kf af.out aE.out⟩,⟨kf ai.out aG.out⟩,⟨by (with_reducible repeat (first | refine gV ?_ _ | refine gQ ?_ | refine gM ?_ _));refine iT (cs:=#[.int .i64 aj,.int .i64 al,ap,.slice none 0 0]) ?_ 2 _ rfl;(with_reducible repeat (first | refine gV ?_ _ | refine gQ ?_ | refine gM ?_ _));exact aa.out⟩,⟨bl3 HB.out av.out aA.out aD.out⟩⟩
   ·rw [if_neg c11] at H
    have bP:=decide_eq_false c11;clear c11;have H':=am H;clear H;have d3:=aT.out;have d4:=aU.out;have d5:=aE.out;have d6:=aK.out;obtain ⟨ca,cb,cd,ce,cf,cg,ch,ci⟩:=b4 af.out;go_wp2;go_loopg [31] k1 (fun kq v31 w'=>∃ (ac:Int) (ax:List (S50)) (aC:Value),v31=.int .i64 ac∧gL (iF.l1 kq ae (ae.length:Int) ac aj al ak ax=some (r1,r2,r3,r4))∧gL (kq≤k1)∧gL (Kd.S (Kd.slice 38 k38) 27 w' w.heap.size (fun _=>True) ap ak)∧gL (Kd.S k50 50 w' w.heap.size (fun _=>True) aC ax)∧gL (w'.heap[aJ]? = some (.cells #[.int .i64 aj,.int .i64 al,(.slice aZ aw.length aQ),(.slice a2 ae.length aR)] 25 (0,0)))∧gL (w'.heap[au]? = some (.cells #[.int .i64 0,.int .i64 0,(.slice none 0 0),(.slice none 0 0)] 25 (0,0)))∧gL (w'.heap[ao]? = some (.cells #[.int .i64 aj,.int .i64 al,ap,aC] 25 (0,0)))∧gL (Below w.heap.size w w'))
    case atStart=>exact ⟨(0),(([]:List (S50))),(.slice none 0 0),sm,H',⟨Nat.le_refl _⟩,⟨by (with_reducible repeat (first | apply Kd.jR | apply Kd.jS | apply Kd.kG));exact ab.out⟩,⟨by first | exact Kd.oz _ _ _ _ _ | exact Kd.oD _ _ _ _ _ | exact Kd.nJ _ _ _ _ _ | exact Kd.ow _ _ _ _ _ | exact Kd.nM _ _ _ _ _⟩,⟨kp af.out⟩,⟨kp ai.out⟩,⟨kp aa.out⟩,⟨bl3 HB.out av.out aA.out aD.out⟩⟩
    case round =>
     clear H';try clear bP
     try clear ca
     try clear cb
     try clear cd
     try clear ce
     try clear cf
     try clear cg
     try clear ch
     try clear ci
     obtain ⟨ac,ax,aC,rfl,HA,dj,ab,ag,af,ai,aa,HB⟩:=hrel;cases gk with
     | zero=>exact absurd HA.out (by simp [iF.l1])
     | succ k2 =>
      have H:=HA.out;clear HA;simp only [iF.l1] at H;by_cases bk:ac<(ae.length:Int)
      ·rw [if_pos bk] at H
       have df:=decide_eq_true bk;clear bk;by_cases bR:0≤ac
       case neg=>rw [if_neg bR] at H;exact absurd H (by simp)
       rw [if_pos bR] at H;have d7:=decide_eq_true bR;clear bR;by_cases bS:ac<(ae.length:Int)
       case neg=>rw [if_neg bS] at H;exact absurd H (by simp)
       rw [if_pos bS] at H;have d8:=decide_eq_true bS;clear bS;replace H:=Option.bind_eq_some_iff.mp H;obtain ⟨a3,cN,H⟩:=H;try dsimp only at H
       have dV:=am cN;clear cN;by_cases bT:ax.length<4398046511104
       case neg=>rw [if_neg bT] at H;exact absurd H (by simp)
       rw [if_pos bT] at H;have dg:=am bT;clear bT;obtain ⟨bg,a1⟩:∃ y_:List (S50),y_=(ax++[(⟨(gW ae ac).f0,a3⟩:S50)]):=⟨_,rfl⟩;replace H:(iF.l1 k2 ae (ae.length:Int) (wrap64 (ac+1)) aj al ak bg)=some (r1,r2,r3,r4):=by first | (rw [a1];with_reducible exact H) | (have bb:=(Option.bind_some _ _).symm.trans H;rw [a1];with_reducible exact bb) | (have bb:=(Option.bind_some _ _).symm.trans H;with_reducible exact bb) | with_reducible exact H | (rw [a1];exact H) | exact H
       have dh:=am a1;clear a1;have H':=am H;clear H;have bE:0≤(ac:Int):=of_decide_eq_true asm;have bF:ac<(ae.length:Int):=of_decide_eq_true asm;obtain ⟨bU,ay,az,e328,bm,bn,bo,bp⟩:=kZ c0.out ac bE bF;cases e328;replace bm:=xc HB bm;replace bn:=xc HB bn;have cj:=am bp;have ck:=am bo;clear bp bo;replace bE:=eq_true bE;replace bF:=eq_true bF;try go_wp2_with (first | ((with_reducible refine iC (N:=7) rfl ?_);refine bx 7 50 #[.int .i64 0,.slice none 0 0] ?_;intro ah hg a4 aM hb;replace ab:=am (Kd.kX (by (with_reducible repeat (first | apply Kd.jR | apply Kd.jS | apply Kd.kG));exact ab.out) hb);replace ag:=am (Kd.kX (Kd.vW (by (with_reducible repeat (first | apply Kd.jR | apply Kd.jS | apply Kd.kG));exact ag.out) ah (Nat.le_of_eq hg.symm)) hb);have aq:=am (aM);have di:=am ((bz3 hg HB.out av.out aA.out aD.out:w.heap.size≤ah));have aY:=di;replace HB:=xb3 HB av aA aD hb;have a5:=am ((nl hg af.out:aJ≠ah));have bA:=am ((ng hg af.out:ah≠aJ));replace af:=xk af hb;have a6:=am ((nl hg ai.out:au≠ah));have bB:=am ((ng hg ai.out:ah≠au));replace ai:=xk ai hb;have aX:=am ((nl hg aa.out:ao≠ah));have a7:=am ((ng hg aa.out:ah≠ao));replace aa:=xk aa hb;clear hb aM hg;have d9:=bA.out;have ea:=a5.out;have eb:=bB.out;have ec:=a6.out;have ed:=a7.out;have ee:=aX.out;obtain ⟨dt,du,dv,dw⟩:=b2 aq.out))
       have cO:gL (Kd.S (Kd.slice 38 k38) 27 ((a4.setCell ⟨ah,0,none⟩ (.int .i64 ((gW ae ac).f0))).setCell ⟨ah,1,none⟩ (.slice ay ((gW ae ac).f1).length az)) w.heap.size (fun _=>True) ap ak):=⟨by (with_reducible repeat (first | apply Kd.jR | apply Kd.jS | apply Kd.kG));exact Kd.mg (Kd.mq (p:=⟨ah,1,none⟩) (Kd.mq (p:=⟨ah,0,none⟩) (Kd.qj ab.out aq.out (by decide)) (fun _ hk=>hk.2) (.int .i64 ((gW ae ac).f0))) (fun _ hk=>hk.2) (.slice ay ((gW ae ac).f1).length az)) (fun _ hk=>trivial)⟩;have cP:gL (Kd.S k50 50 ((a4.setCell ⟨ah,0,none⟩ (.int .i64 ((gW ae ac).f0))).setCell ⟨ah,1,none⟩ (.slice ay ((gW ae ac).f1).length az)) w.heap.size (fun k_=>k_≠ah) aC ax):=⟨by (with_reducible repeat (first | apply Kd.jR | apply Kd.jS | apply Kd.kG));exact Kd.mg (Kd.mq (p:=⟨ah,1,none⟩) (Kd.mq (p:=⟨ah,0,none⟩) (Kd.mg ag.out (fun k_ hk=>(⟨hk,hk.2⟩:_∧k_≠ah))) (fun _ hk=>hk.2) (.int .i64 ((gW ae ac).f0))) (fun _ hk=>hk.2) (.slice ay ((gW ae ac).f1).length az)) (fun _ hk=>hk.1.2)⟩;have cQ:gL (((a4.setCell ⟨ah,0,none⟩ (.int .i64 ((gW ae ac).f0))).setCell ⟨ah,1,none⟩ (.slice ay ((gW ae ac).f1).length az)).heap[aJ]? = some (.cells #[.int .i64 aj,.int .i64 al,.slice aZ aw.length aQ,.slice (some bU) ae.length aR] 25 (0,0))):=⟨kf af.out a5.out⟩;have cR:gL (((a4.setCell ⟨ah,0,none⟩ (.int .i64 ((gW ae ac).f0))).setCell ⟨ah,1,none⟩ (.slice ay ((gW ae ac).f1).length az)).heap[au]? = some (.cells #[.int .i64 0,.int .i64 0,.slice none 0 0,.slice none 0 0] 25 (0,0))):=⟨kf ai.out a6.out⟩
       have cS:gL (((a4.setCell ⟨ah,0,none⟩ (.int .i64 ((gW ae ac).f0))).setCell ⟨ah,1,none⟩ (.slice ay ((gW ae ac).f1).length az)).heap[ao]? = some (.cells #[.int .i64 aj,.int .i64 al,ap,aC] 25 (0,0))):=⟨kf aa.out aX.out⟩;have cT:gL (((a4.setCell ⟨ah,0,none⟩ (.int .i64 ((gW ae ac).f0))).setCell ⟨ah,1,none⟩ (.slice ay ((gW ae ac).f1).length az)).heap[ah]? = some (.cells #[.int .i64 ((gW ae ac).f0),.slice ay ((gW ae ac).f1).length az] 50 (0,0))):=⟨by (with_reducible repeat (first | refine gV ?_ _ | refine gQ ?_ | refine gM ?_ _));refine iT (cs:=#[.int .i64 ((gW ae ac).f0),.slice none 0 0]) ?_ 1 _ rfl;(with_reducible repeat (first | refine gV ?_ _ | refine gQ ?_ | refine gM ?_ _));refine iT (cs:=#[.int .i64 0,.slice none 0 0]) ?_ 0 _ rfl;(with_reducible repeat (first | refine gV ?_ _ | refine gQ ?_ | refine gM ?_ _));exact aq.out⟩;have cU:gL (Below w.heap.size w ((a4.setCell ⟨ah,0,none⟩ (.int .i64 ((gW ae ac).f0))).setCell ⟨ah,1,none⟩ (.slice ay ((gW ae ac).f1).length az))):=⟨by repeat (first | (with_reducible first | exact HB.out | apply jm | apply jf | apply iQ | refine iK ?_ av.out | refine iK ?_ aA.out | refine iK ?_ aD.out | refine iK ?_ aY.out) | exact HB.out)⟩;(try clear ab);(try clear ag);(try clear af);(try clear ai);(try clear aa);(try clear aq);(try clear HB);generalize ((a4.setCell ⟨ah,0,none⟩ (.int .i64 ((gW ae ac).f0))).setCell ⟨ah,1,none⟩ (.slice ay ((gW ae ac).f1).length az))=dW at cO cP cQ cR cS cT cU ⊢;have ab:=cO;have ag:=cP;have af:=cQ;have ai:=cR
       have aa:=cS;have aq:=cT;have HB:=cU;clear cO cP cQ cR cS cT cU;replace ab:=am (Kd.kG ab.out);replace ag:=am (Kd.kG ag.out);replace af:=am (gQ af.out);replace ai:=am (gQ ai.out);replace aa:=am (gQ aa.out);replace aq:=am (gQ aq.out);replace HB:=am (iQ HB.out);refine lu (n:=12) (S:=fun w'=>w'.cell? ⟨ao,0,none⟩=some (.int .i64 aj)∧w'.cell? ⟨ao,1,none⟩=some (.int .i64 al)∧w'.cell? ⟨ao,2,none⟩=some (ap)∧w'.cell? ⟨ao,3,none⟩=some (aC)∧w'.cell? ⟨ah,0,none⟩=some (.int .i64 ((gW ae ac).f0))∧w'.cell? ⟨ah,1,none⟩=some (.slice ay ((gW ae ac).f1).length az)) (ds:=[11]) (rs false [12]) (by kernel_rfl) rfl rfl ⟨bc aa.out 0,bc aa.out 1,bc aa.out 2,bc aa.out 3,bc aq.out 0,bc aq.out 1⟩ (fun hHeld => ?_);refine jK iF.ae5 iF.aes (fun aH bw => ?_);generalize dW.drew=eB at ab ag af ai aa aq HB hHeld ⊢;refine px 0 35 (rs true [1,11]) aH.out ?_;refine px 2 37 (rs true [1,1,1,9]) aH.out ?_;refine px 4 39 (rs true [1,1,1,1,1,7]) aH.out ?_;refine tx 1 36 (rs true [3,1,1,7]) aH.out bw.out hHeld ?_;refine tx 3 38 (rs true [5,7]) aH.out bw.out hHeld ?_;refine tx 5 40 (rs true [6,6]) aH.out bw.out hHeld ?_;refine ny (i:=6) (N:=some 41) (rs true [7,5]) rfl rfl (jM aH.out (by kernel_rfl)) (by decide) (fun K hK => ?_);refine lC Tryz.func24 (by kernel_rfl) rfl #[.slice ay ((gW ae ac).f1).length az] (by rfl) rfl rfl ar ?_;with_reducible refine (lM.calls _ _ ((gW ae ac).f1) a3 _ ?br ?bs dV.out).mono ?_
       (case br=>exact kc (Kd.iA cj.out HB.out))
       (case bs=>exact ck.out)
       rintro e eC ⟨ex,rfl,ho0,hb⟩;refine ⟨_,rfl,?_⟩;replace ab:=am (Kd.rZ (by (with_reducible repeat (first | apply Kd.jR | apply Kd.jS | apply Kd.kG));exact ab.out) (Kd.kS ho0) hb);replace ag:=am (Kd.rZ (by (with_reducible repeat (first | apply Kd.jR | apply Kd.jS | apply Kd.kG));exact ag.out) (Kd.kS ho0) hb);have a9:=am (Kd.kE ho0 (iL (by repeat (first | (with_reducible first | exact HB.out | apply jm | apply jf | apply iQ | refine iK ?_ av.out | refine iK ?_ aA.out | refine iK ?_ aD.out | refine iK ?_ aY.out) | exact HB.out))));replace af:=xk af hb;replace ai:=xk ai hb;replace aa:=xk aa hb;replace aq:=xk aq hb;replace HB:=am (kR (by repeat (first | (with_reducible first | exact HB.out | apply jm | apply jf | apply iQ | refine iK ?_ av.out | refine iK ?_ aA.out | refine iK ?_ aD.out | refine iK ?_ aY.out) | exact HB.out)) hb);(try clear hb);(try clear hk);(try clear ho0);obtain ⟨cV,cW,cX⟩:=Kd.jT a9.out;(first | subst cX | (injection cX with aV bd aW;have be:=aV.symm;have bf:=aW.symm;clear aV bd aW;subst be;subst bf));refine hK.out _ _ ⟨bc aa.out 0,bc aa.out 1,bc aa.out 2,bc aa.out 3,bc aq.out 0,bc aq.out 1⟩ (fun hHeld => ?_);clear hK K;refine nx 41 ?_;refine px 7 42 (rs true [8,4]) aH.out ?_;refine ny (i:=8) (N:=some 43) (rs true [9,3]) rfl rfl (jM aH.out (by kernel_rfl)) (by decide) (fun K hK => ?_);refine xA (w1 := ?_) (v := ?_) (by rfl) rfl ?_ ?_;rotate_left 2
       ·go_simp
        constructor
        ·rfl
        ·rfl
       refine hK.out _ _ ⟨(iY (gM aa.out _) 0).trans rfl,(iY (gM aa.out _) 1).trans rfl,(iY (gM aa.out _) 2).trans rfl,(iY (gM aa.out _) 3).trans rfl,(iY (gM aq.out _) 0).trans rfl,(iY (gM aq.out _) 1).trans rfl⟩ (fun hHeld => ?_);clear hK K;refine nx 43 ?_;refine ny (i:=9) (N:=some 44) (rs true [10,2]) rfl rfl (jM aH.out (by kernel_rfl)) (by decide) (fun K hK => ?_);refine Kd.r9 k50 (w0:=w) w.heap.size (by rfl) (.tmp 36) (.tmp 43) 23 50 (.agg #[(.int .i64 0),(.slice none 0 0)]) 32 rfl Tryz.underlying23 aem rfl (by decide) (by omega) aC ax (⟨(gW ae ac).f0,a3⟩:S50) [.int .i64 ((gW ae ac).f0),.slice cV a3.length cW] (fun k_=>k_≠ah) (fun k_=>some k_=(.slice cV a3.length cW:Value).ownBlock) rfl rfl ?aP (fun k_ cJ=>((Kd.kD (ok':=fun k_=>((fun k_=>k_≠ah)) k_∧some k_≠(aC:Value).ownBlock) (Kd.rG (Kd.qb (a9.out) (Kd.uM ag.out) (by decide)) aq.out (by decide)) (fun k_ hk=>⟨hk.2,hk.1.2⟩))).1 k_ cJ.symm) ?aF ?aO ?aB ?aS ?aL ?_;(case aP=>exact ado _ _ _ (⟨(gW ae ac).f0,a3⟩:S50) (Kd.kD (Kd.uL rfl (Kd.kD (ok':=fun k_=>((fun k_=>k_≠ah)) k_∧some k_≠(aC:Value).ownBlock) (Kd.rG (Kd.qb (a9.out) (Kd.uM ag.out) (by decide)) aq.out (by decide)) (fun k_ hk=>⟨hk.2,hk.1.2⟩))) (fun _ h_=>h_)));(case aB=>exact (by repeat (first | (with_reducible first | exact HB.out | apply jm | apply jf | apply iQ | refine iK ?_ av.out | refine iK ?_ aA.out | refine iK ?_ aD.out | refine iK ?_ aY.out) | exact HB.out)))
       (case aF=>exact (fun k_ hk=>Kd.nY (g:=ah) (o:=.cells #[.int .i64 ((gW ae ac).f0),.slice ay ((gW ae ac).f1).length az] 50 (0,0)) (kp aq.out) k_ hk))
       (case aO=>exact (by (with_reducible repeat (first | apply Kd.jR | apply Kd.jS | apply Kd.kG));exact Kd.mg ag.out (fun k_ hk=>⟨hk.1,fun e_=>hk.2 e_⟩)))
       (case aS=>exact (iL (by repeat (first | (with_reducible first | exact HB.out | apply jm | apply jf | apply iQ | refine iK ?_ av.out | refine iK ?_ aA.out | refine iK ?_ aD.out | refine iK ?_ aY.out) | exact HB.out))))
       (case aL=>have:=dg.out;omega)
       intro ey dX ho hb hg hat;rw [← dh.out] at ho;replace ab:=am (Kd.adf (by (with_reducible repeat (first | apply Kd.jR | apply Kd.jS | apply Kd.kG));exact ab.out) (Kd.uM (by (with_reducible repeat (first | apply Kd.jR | apply Kd.jS | apply Kd.kG));exact ag.out)) (by decide) hg);replace af:=am (lg (g:=aJ) (o:=.cells #[.int .i64 aj,.int .i64 al,.slice aZ aw.length aQ,.slice (some bU) ae.length aR] 25 (0,0)) (kp af.out) hg (Kd.adS ag.out af.out (by decide)));replace ai:=am (lg (g:=au) (o:=.cells #[.int .i64 0,.int .i64 0,.slice none 0 0,.slice none 0 0] 25 (0,0)) (kp ai.out) hg (Kd.adS ag.out ai.out (by decide)));replace aa:=am (lg (g:=ao) (o:=.cells #[.int .i64 aj,.int .i64 al,ap,aC] 25 (0,0)) (kp aa.out) hg (Kd.adS ag.out aa.out (by decide)));replace aq:=am (lg (g:=ah) (o:=.cells #[.int .i64 ((gW ae ac).f0),.slice ay ((gW ae ac).f1).length az] 50 (0,0)) (kp aq.out) hg (Kd.aeb ag.out (fun _ hk=>hk.1)));replace HB:=am (hb);have bV:=am (ho);clear ag a9;clear ho hb hg hat;obtain ⟨bG,bH,cY⟩:=Kd.sZ bV.out;(first | subst cY | (injection cY with aV bd aW;have be:=aV.symm;have bf:=aW.symm;clear aV bd aW;subst be;subst bf));refine hK.out _ _ ⟨bc aa.out 0,bc aa.out 1,bc aa.out 2,bc aa.out 3,bc aq.out 0,bc aq.out 1⟩ (fun hHeld => ?_);clear hK K;refine nx 44 ?_;refine px 10 45 (rs true [11,1]) aH.out ?_;refine yx (i:=11) (N:=none) (rs true [12]) rfl rfl (jM aH.out (by kernel_rfl)) (by decide) (fun K hK => ?_);have ez:dX.cell? ⟨ao,3,none⟩=some (aC):=bc aa.out 3;have ef:=kQ aa.out 3
       have dx:=aE.out;have dy:=aG.out;have dz:=a7.out;have dA:=aK.out;have dB:=aN.out;have dC:=aX.out;refine abQ (w1 := ?_) (by rfl) rfl ?_ ?_;rotate_left
       ·go_simp
        rfl
       refine hK.out _ _ ?_;clear hK K;refine mU (kI aH.out (by kernel_rfl)) ?_;try go_wp2
       go_roundg k2
       case measure=>have:=bO.out;have:=dj.out;omega
       case rel=>exact ⟨(wrap64 (ac+1)),(bg),(.slice bG bg.length bH),sm,H',⟨by have:=bO.out;have:=dj.out;omega⟩,⟨by (with_reducible repeat (first | apply Kd.jR | apply Kd.jS | apply Kd.kG));exact Kd.mg (Kd.mq (p:=⟨ao,3,none⟩) (Kd.qj ab.out aa.out (by decide)) (fun _ hk=>hk.2) (.slice bG bg.length bH)) (fun _ hk=>trivial)⟩,⟨by (with_reducible repeat (first | apply Kd.jR | apply Kd.jS | apply Kd.kG));exact Kd.mg (Kd.mq (p:=⟨ao,3,none⟩) (Kd.qj bV.out aa.out (by decide)) (fun _ hk=>hk.2) (.slice bG bg.length bH)) (fun _ hk=>trivial)⟩,⟨kf af.out aE.out⟩,⟨kf ai.out aG.out⟩,⟨by (with_reducible repeat (first | refine gV ?_ _ | refine gQ ?_ | refine gM ?_ _));refine iT (cs:=#[.int .i64 aj,.int .i64 al,ap,aC]) ?_ 3 _ rfl;(with_reducible repeat (first | refine gV ?_ _ | refine gQ ?_ | refine gM ?_ _));exact aa.out⟩,⟨by repeat (first | (with_reducible first | exact HB.out | apply jm | apply jf | apply iQ | refine iK ?_ av.out | refine iK ?_ aA.out | refine iK ?_ aD.out | refine iK ?_ aY.out) | exact HB.out)⟩⟩
      ·rw [if_neg bk] at H
       have df:=decide_eq_false bk;clear bk;simp only [Option.some.injEq,Prod.mk.injEq] at H;obtain ⟨rfl,rfl,rfl,rfl⟩:=H;have eg:=aK.out;have eh:=aE.out;have ei:=aN.out;have ej:=aG.out;obtain ⟨dD,dE,dF,dG,dH,dI,dJ,dK⟩:=b4 aa.out;have ek:=aU.out;have el:=aT.out;obtain ⟨dL,dM,dN,dO,dP,dQ,dR,dS⟩:=b4 ai.out;obtain ⟨bu,bv,dk⟩:=Kd.sZ ab.out;subst dk;obtain ⟨bI,bJ,dl⟩:=Kd.sZ ag.out;subst dl;go_wp2;refine bodyPost_ret (results_cell_row rfl _ _ au 25 #[.int .i64 aj,.int .i64 al,.slice bu ak.length bv,.slice bI ax.length bJ] (0,0) _ rfl (by (with_reducible repeat (first | refine gV ?_ _ | refine gQ ?_ | refine gM ?_ _));refine iT (cs:=#[.int .i64 aj,.int .i64 al,.slice bu ak.length bv,.slice none 0 0]) ?_ 3 _ rfl;(with_reducible repeat (first | refine gV ?_ _ | refine gQ ?_ | refine gM ?_ _));refine iT (cs:=#[.int .i64 aj,.int .i64 al,.slice none 0 0,.slice none 0 0]) ?_ 2 _ rfl;(with_reducible repeat (first | refine gV ?_ _ | refine gQ ?_ | refine gM ?_ _));refine iT (cs:=#[.int .i64 aj,.int .i64 0,.slice none 0 0,.slice none 0 0]) ?_ 1 _ rfl;(with_reducible repeat (first | refine gV ?_ _ | refine gQ ?_ | refine gM ?_ _));refine iT (cs:=#[.int .i64 0,.int .i64 0,.slice none 0 0,.slice none 0 0]) ?_ 0 _ rfl;(with_reducible repeat (first | refine gV ?_ _ | refine gQ ?_ | refine gM ?_ _));exact ai.out) Tryz.underlying25 rfl (by kernel_rfl)) rfl ?_
       exact ⟨_,_,rt,by (with_reducible repeat (first | apply Kd.jR | apply Kd.jS | apply Kd.kG));exact Kd.mg (Kd.mq (p:=⟨au,3,none⟩) (Kd.mq (p:=⟨au,2,none⟩) (Kd.mq (p:=⟨au,1,none⟩) (Kd.mq (p:=⟨au,0,none⟩) (Kd.qj ab.out ai.out (by decide)) (fun _ hk=>hk.2) (.int .i64 aj)) (fun _ hk=>hk.2) (.int .i64 al)) (fun _ hk=>hk.2) (.slice bu ak.length bv)) (fun _ hk=>hk.2) (.slice bI ax.length bJ)) (fun _ hk=>trivial),by (with_reducible repeat (first | apply Kd.jR | apply Kd.jS | apply Kd.kG));exact Kd.mg (Kd.mq (p:=⟨au,3,none⟩) (Kd.mq (p:=⟨au,2,none⟩) (Kd.mq (p:=⟨au,1,none⟩) (Kd.mq (p:=⟨au,0,none⟩) (Kd.qj ag.out ai.out (by decide)) (fun _ hk=>hk.2) (.int .i64 aj)) (fun _ hk=>hk.2) (.int .i64 al)) (fun _ hk=>hk.2) (.slice bu ak.length bv)) (fun _ hk=>hk.2) (.slice bI ax.length bJ)) (fun _ hk=>trivial),bl3 HB.out av.out aA.out aD.out⟩
def jo.l0:Nat→List (S38)→Int→Int→Option (Bool)
 | 0,_,_,_=>none
 | k+1,x0,x1,x5=>if x5<(x0.length:Int) then (if 0≤x5 then (if ((gN x0 x5).f0)≤x1 then (if x1≤((gN x0 x5).f1) then (some true) else (jo.l0 k x0 x1 (wrap64 (x5+1)))) else (jo.l0 k x0 x1 (wrap64 (x5+1)))) else (none)) else (some false)
def jo.f (k:Nat) (l0:List (S38)) (a1:Int):Option (Bool):=jo.l0 k l0 a1 0
set_option maxHeartbeats 8000000 in
set_option maxRecDepth 100000 in
theorem jo.calls (k:Nat) (A0:Option Addr) (c0:Nat) (l0:List (S38)) (a1:Int) (r:Bool) (w:World) (hr0:Kd.C k38 w A0 l0.length l0) (hc0:l0.length≤c0) (h:jo.f k l0 a1=some r) :
 Calls Tryz.prog 28 #[.slice A0 l0.length c0,.int .i64 a1] w fun e w'=>e=.returned (.bool r)∧iZ w w':=by
 have al:=am hr0;have az:=am hc0;clear hr0 hc0;have H:(jo.l0 k l0 a1 0)=some r:=h;clear h;have H':=am H;clear H;go_enter Tryz.func28,Tryz.ntmps28;go_wp2;go_loopg [5] k (fun kq v5 w'=>∃ (aa:Int),v5=.int .i64 aa∧gL (jo.l0 kq l0 a1 aa=some r)∧gL (kq≤k)∧iZ w w')
 case atStart=>exact ⟨(0),sm,H',⟨Nat.le_refl _⟩,by repeat (first | exact iZ.refl _ | apply iZ.step)⟩
 case round =>
  clear H';obtain ⟨aa,rfl,HA,ap,⟨m1,rfl⟩⟩:=hrel;cases gk with
  | zero=>exact absurd HA.out (by simp [jo.l0])
  | succ k1 =>
   have H:=HA.out;clear HA;simp only [jo.l0] at H;by_cases c3:aa<(l0.length:Int)
   ·rw [if_pos c3] at H
    have av:=decide_eq_true c3;clear c3;by_cases c4:0≤aa
    case neg=>rw [if_neg c4] at H;exact absurd H (by simp)
    rw [if_pos c4] at H;have ay:=decide_eq_true c4;clear c4;by_cases c5:((gN l0 aa).f0)≤a1
    ·rw [if_pos c5] at H
     have aw:=decide_eq_true c5;clear c5;by_cases c6:a1≤((gN l0 aa).f1)
     ·rw [if_pos c6] at H
      have ax:=decide_eq_true c6;clear c6;obtain rfl:=Option.some.inj H;have ab:0≤(aa:Int):=of_decide_eq_true asm;have ac:aa<(l0.length:Int):=of_decide_eq_true asm;obtain ⟨ag,ah,ai,aj⟩:=j5 al.out aa ab ac;cases ah;replace ab:=eq_true ab;replace ac:=eq_true ac;have ae:0≤(aa:Int):=of_decide_eq_true asm;have af:aa<(l0.length:Int):=of_decide_eq_true asm;obtain ⟨ak,ao,aq,au⟩:=j5 al.out aa ae af;obtain rfl:ag=ak:=(by injection ao);replace ae:=eq_true ae;replace af:=eq_true af;go_wp2;go_ret;exact ⟨by first | rfl | (simp;done) | (simp [*];done),by repeat (first | exact iZ.refl _ | apply iZ.step)⟩
     ·rw [if_neg c6] at H
      have ax:=decide_eq_false c6;clear c6;have H':=am H;clear H;have ab:0≤(aa:Int):=of_decide_eq_true asm;have ac:aa<(l0.length:Int):=of_decide_eq_true asm;obtain ⟨ag,ah,ai,aj⟩:=j5 al.out aa ab ac;cases ah;replace ab:=eq_true ab;replace ac:=eq_true ac;have ae:0≤(aa:Int):=of_decide_eq_true asm;have af:aa<(l0.length:Int):=of_decide_eq_true asm;obtain ⟨ak,ao,aq,au⟩:=j5 al.out aa ae af;obtain rfl:ag=ak:=(by injection ao);replace ae:=eq_true ae;replace af:=eq_true af;go_wp2;go_roundg k1
      case measure=>have:=ap.out;omega
      case rel=>exact ⟨(wrap64 (aa+1)),sm,H',⟨by have:=ap.out;omega⟩,by repeat (first | exact iZ.refl _ | apply iZ.step)⟩
    ·rw [if_neg c5] at H
     have aw:=decide_eq_false c5;clear c5;have H':=am H;clear H;have ab:0≤(aa:Int):=of_decide_eq_true asm;have ac:aa<(l0.length:Int):=of_decide_eq_true asm;obtain ⟨ag,ah,ai,aj⟩:=j5 al.out aa ab ac;cases ah;replace ab:=eq_true ab;replace ac:=eq_true ac;go_wp2;go_roundg k1
     case measure=>have:=ap.out;omega
     case rel=>exact ⟨(wrap64 (aa+1)),sm,H',⟨by have:=ap.out;omega⟩,by repeat (first | exact iZ.refl _ | apply iZ.step)⟩
   ·rw [if_neg c3] at H
    have av:=decide_eq_false c3;clear c3;obtain rfl:=Option.some.inj H;go_wp2;go_ret;exact ⟨by first | rfl | (simp;done) | (simp [*];done),by repeat (first | exact iZ.refl _ | apply iZ.step)⟩
def jq.l0:Nat→List (S38)→Int→List (S38)→Int→Option ((List (S38)) × Int)
 | 0,_,_,_,_=>none
 | k+1,x0,x1,x6,x7=>if x7<(x0.length:Int) then (if 0≤x7 then (if x1>(wrap64 (1099511627776 - ((gN x0 x7).f1))) then (some (([]:List (S38)),20)) else (if x1<(wrap64 ((-1099511627776) - ((gN x0 x7).f0))) then (some (([]:List (S38)),20)) else (if x6.length<8796093022208 then (jq.l0 k x0 x1 (x6++[(⟨wrap64 (((gN x0 x7).f0)+x1),wrap64 (((gN x0 x7).f1)+x1)⟩:S38)]) (wrap64 (x7+1))) else (none)))) else (none)) else (some (x6,0))
def jq.f (k:Nat) (l0:List (S38)) (a1:Int):Option ((List (S38)) × Int):=jq.l0 k l0 a1 ([]:List (S38)) 0
def jq.T7:Bool × List (List Nat × List Nat):=(true,[([],[]),([],[]),([],[]),([1,2],[1,2]),([3],[3]),([4],[4]),([],[]),([5,6],[5,6]),([],[]),([],[]),([8,9],[8,9]),([10],[10]),([11],[11]),([],[]),([12,13],[12,13]),([7,14],[7,14]),([15],[15]),([0,16],[0,16]),([17,17,0,1,2,3,4,5,6,7,8,9,10,11,12,13,14,15,16,17],[0,17])])
def jq.B7:List Nat:=[0,0,0,6,14,30,0,126,0,0,768,1792,3840,0,16128,32766,65534,131071,262143]
theorem jq.aac:qc .any (opsOf Tryz.f54 7)=jq.T7:=by kernel_rfl
theorem jq.tN:l8 jq.T7.2 jq.B7=true:=by kernel_rfl
set_option maxHeartbeats 8000000 in
set_option maxRecDepth 100000 in
theorem jq.calls (k:Nat) (A0:Option Addr) (c0:Nat) (l0:List (S38)) (a1:Int) (r1:List (S38)) (r2:Int) (w:World) (hr0:Kd.C k38 w A0 l0.length l0) (hc0:l0.length≤c0) (h:jq.f k l0 a1=some (r1,r2)) :
 Calls Tryz.prog 54 #[.slice A0 l0.length c0,.int .i64 a1] w fun e w'=>∃ v0_:Value,e=.returned (.tuple #[v0_,.int .i64 r2])∧Kd.R k38 38 w' w.heap.size (fun _=>True) v0_ r1∧Below w.heap.size w w':=by
 have a2:=Tryz.underlying38;have aD:=am hr0;have a5:=am hc0;clear hr0 hc0;have HB:=am (Below.refl w.heap.size w);have H:(jq.l0 k l0 a1 ([]:List (S38)) 0)=some (r1,r2):=h;clear h;have H':=am H;clear H;go_enter Tryz.func54,Tryz.ntmps54;go_wp2;go_loopg [6,7] k (fun kq v6 v7 w'=>∃ (aA:List (S38)) (aa:Int),v7=.int .i64 aa∧gL (jq.l0 kq l0 a1 aA aa=some (r1,r2))∧gL (kq≤k)∧gL (Kd.R k38 38 w' w.heap.size (fun _=>True) v6 aA)∧gL (Below w.heap.size w w'))
 case atStart=>exact ⟨(([]:List (S38))),(0),sm,H',⟨Nat.le_refl _⟩,⟨by first | exact Kd.nM _ _ _ _ _ | exact Kd.oD _ _ _ _ _ | exact Kd.nJ _ _ _ _ _ | exact Kd.ow _ _ _ _ _ | exact Kd.oz _ _ _ _ _⟩,⟨bl HB.out⟩⟩
 case round =>
  clear H';obtain ⟨aA,aa,rfl,HA,aV,aC,HB⟩:=hrel;cases gk with
  | zero=>exact absurd HA.out (by simp [jq.l0])
  | succ k1 =>
   have H:=HA.out;clear HA;simp only [jq.l0] at H;by_cases c3:aa<(l0.length:Int)
   ·rw [if_pos c3] at H
    have aX:=decide_eq_true c3;clear c3;by_cases c4:0≤aa
    case neg=>rw [if_neg c4] at H;exact absurd H (by simp)
    rw [if_pos c4] at H;have a3:=decide_eq_true c4;clear c4;by_cases c5:a1>(wrap64 (1099511627776 - ((gN l0 aa).f1)))
    ·rw [if_pos c5] at H
     have aY:decide ((wrap64 (1099511627776 - ((gN l0 aa).f1)))<a1)=true:=decide_eq_true c5;clear c5;simp only [Option.some.injEq,Prod.mk.injEq] at H;obtain ⟨rfl,rfl⟩:=H;have ak:0≤(aa:Int):=of_decide_eq_true asm;have al:aa<(l0.length:Int):=of_decide_eq_true asm;obtain ⟨ab,aE,ac,ae⟩:=j5 aD.out aa ak al;cases aE;replace ac:=xc HB ac;replace ae:=xc HB ae;replace ak:=eq_true ak;replace al:=eq_true al;go_wp2;go_ret2;exact ⟨_,rt,by first | exact Kd.nM _ _ _ _ _ | exact Kd.oD _ _ _ _ _ | exact Kd.nJ _ _ _ _ _ | exact Kd.ow _ _ _ _ _ | exact Kd.oz _ _ _ _ _,bl HB.out⟩
    ·rw [if_neg c5] at H
     have aY:decide ((wrap64 (1099511627776 - ((gN l0 aa).f1)))<a1)=false:=decide_eq_false c5;clear c5;by_cases c6:a1<(wrap64 ((-1099511627776) - ((gN l0 aa).f0)))
     ·rw [if_pos c6] at H
      have aZ:=decide_eq_true c6;clear c6;simp only [Option.some.injEq,Prod.mk.injEq] at H;obtain ⟨rfl,rfl⟩:=H;have ak:0≤(aa:Int):=of_decide_eq_true asm;have al:aa<(l0.length:Int):=of_decide_eq_true asm;obtain ⟨ab,aE,ac,ae⟩:=j5 aD.out aa ak al;cases aE;replace ac:=xc HB ac;replace ae:=xc HB ae;replace ak:=eq_true ak;replace al:=eq_true al;have ax:0≤(aa:Int):=of_decide_eq_true asm;have ay:aa<(l0.length:Int):=of_decide_eq_true asm;obtain ⟨aG,e343,ao,ap⟩:=j5 aD.out aa ax ay;obtain rfl:ab=aG:=(by injection e343);replace ao:=xc HB ao;replace ap:=xc HB ap;replace ax:=eq_true ax;replace ay:=eq_true ay;go_wp2;go_ret2;exact ⟨_,rt,by first | exact Kd.nM _ _ _ _ _ | exact Kd.oD _ _ _ _ _ | exact Kd.nJ _ _ _ _ _ | exact Kd.ow _ _ _ _ _ | exact Kd.oz _ _ _ _ _,bl HB.out⟩
     ·rw [if_neg c6] at H
      have aZ:=decide_eq_false c6;clear c6;by_cases c7:aA.length<8796093022208
      case neg=>rw [if_neg c7] at H;exact absurd H (by simp)
      rw [if_pos c7] at H;have a0:=am c7;clear c7;obtain ⟨aM,az⟩:∃ y_:List (S38),y_=(aA++[(⟨wrap64 (((gN l0 aa).f0)+a1),wrap64 (((gN l0 aa).f1)+a1)⟩:S38)]):=⟨_,rfl⟩;replace H:(jq.l0 k1 l0 a1 aM (wrap64 (aa+1)))=some (r1,r2):=by first | (rw [az];with_reducible exact H) | (have aN:=(Option.bind_some _ _).symm.trans H;rw [az];with_reducible exact aN) | (have aN:=(Option.bind_some _ _).symm.trans H;with_reducible exact aN) | with_reducible exact H | (rw [az];exact H) | exact H
      have aQ:=am az;clear az;have H':=am H;clear H;have ak:0≤(aa:Int):=of_decide_eq_true asm;have al:aa<(l0.length:Int):=of_decide_eq_true asm;obtain ⟨ab,aE,ac,ae⟩:=j5 aD.out aa ak al;cases aE;replace ac:=xc HB ac;replace ae:=xc HB ae;replace ak:=eq_true ak;replace al:=eq_true al;have ax:0≤(aa:Int):=of_decide_eq_true asm;have ay:aa<(l0.length:Int):=of_decide_eq_true asm;obtain ⟨aG,e343,ao,ap⟩:=j5 aD.out aa ax ay;obtain rfl:ab=aG:=(by injection e343);replace ao:=xc HB ao;replace ap:=xc HB ap;replace ax:=eq_true ax;replace ay:=eq_true ay;try go_wp2
      replace aC:=am (Kd.jF aC.out);replace HB:=am (iQ HB.out);have aH:0≤(aa:Int):=of_decide_eq_true asm;have aI:aa<(l0.length:Int):=of_decide_eq_true asm;obtain ⟨aR,e344,aq,au⟩:=j5 aD.out aa aH aI;have af:=au;have ag:=aq;obtain rfl:ab=aR:=(by injection e344);replace aq:=xc HB aq;replace au:=xc HB au;replace aH:=eq_true aH;replace aI:=eq_true aI;have aJ:0≤(aa:Int):=of_decide_eq_true asm;have aK:aa<(l0.length:Int):=of_decide_eq_true asm;obtain ⟨aT,e345,av,aw⟩:=j5 aD.out aa aJ aK;have ah:=aw;have ai:=av;obtain rfl:ab=aT:=(by injection e345);replace av:=xc HB av;replace aw:=xc HB aw;replace aJ:=eq_true aJ;replace aK:=eq_true aK;refine lu (n:=19) (S:=fun w'=>w'.cell? (ab.add ((aa).toNat*2))=some (.int .i64 ((gN l0 aa).f0))∧w'.cell? ⟨(ab.add ((aa).toNat*2)).block,(ab.add ((aa).toNat*2)).off+1,none⟩=some (.int .i64 ((gN l0 aa).f1))∧w'.cell? (ab.add ((aa).toNat*2))=some (.int .i64 ((gN l0 aa).f0))∧w'.cell? ⟨(ab.add ((aa).toNat*2)).block,(ab.add ((aa).toNat*2)).off+1,none⟩=some (.int .i64 ((gN l0 aa).f1))) (ds:=[]) (rs false [19]) (by kernel_rfl) rfl rfl ⟨((HB.out.cell (World.block_lt_of_cell? w _ ag)).trans ag),((HB.out.cell (World.block_lt_of_cell? w _ af)).trans af),((HB.out.cell (World.block_lt_of_cell? w _ ai)).trans ai),((HB.out.cell (World.block_lt_of_cell? w _ ah)).trans ah)⟩ (fun hHeld => ?_);refine jK jq.aac jq.tN (fun aj aW => ?_);generalize wr.drew=w8 at aC HB aq au av aw hHeld ⊢;refine px 0 32 (rs true [1,18]) aj.out ?_;refine px 1 33 (rs true [2,17]) aj.out ?_
      refine px 2 34 (rs true [3,16]) aj.out ?_;refine px 3 35 (rs true [4,15]) aj.out ?_;refine px 4 36 (rs true [5,14]) aj.out ?_;refine px 6 38 (rs true [5,1,1,12]) aj.out ?_;refine px 8 40 (rs true [5,1,1,1,1,10]) aj.out ?_;refine px 9 41 (rs true [5,1,1,1,2,9]) aj.out ?_;refine px 10 42 (rs true [5,1,1,1,3,8]) aj.out ?_;refine px 11 43 (rs true [5,1,1,1,4,7]) aj.out ?_;refine px 13 45 (rs true [5,1,1,1,4,1,1,5]) aj.out ?_;refine tx 5 37 (rs true [7,1,4,1,1,5]) aj.out aW.out hHeld ?_;refine px 7 39 (rs true [12,1,1,5]) aj.out ?_;refine tx 12 44 (rs true [14,5]) aj.out aW.out hHeld ?_;refine px 14 46 (rs true [15,4]) aj.out ?_;refine px 15 47 (rs true [16,3]) aj.out ?_;refine ny (i:=16) (N:=some 48) (rs true [17,2]) rfl rfl (jM aj.out (by kernel_rfl)) (by decide) (fun K hK => ?_);refine xA (w1 := ?_) (v := ?_) (by rfl) rfl ?_ ?_;rotate_left 2
      ·go_simp
       constructor
       ·rfl
       ·rfl
      refine hK.out _ _ ⟨(World.cell?_alloc_lt _ _ _ (World.block_lt_of_cell? _ _ (((HB.out.cell (World.block_lt_of_cell? w _ ag)).trans ag)))).trans (((HB.out.cell (World.block_lt_of_cell? w _ ag)).trans ag)),(World.cell?_alloc_lt _ _ _ (World.block_lt_of_cell? _ _ (((HB.out.cell (World.block_lt_of_cell? w _ af)).trans af)))).trans (((HB.out.cell (World.block_lt_of_cell? w _ af)).trans af)),(World.cell?_alloc_lt _ _ _ (World.block_lt_of_cell? _ _ (((HB.out.cell (World.block_lt_of_cell? w _ ai)).trans ai)))).trans (((HB.out.cell (World.block_lt_of_cell? w _ ai)).trans ai)),(World.cell?_alloc_lt _ _ _ (World.block_lt_of_cell? _ _ (((HB.out.cell (World.block_lt_of_cell? w _ ah)).trans ah)))).trans (((HB.out.cell (World.block_lt_of_cell? w _ ah)).trans ah))⟩ (fun hHeld => ?_);clear hK K;refine nx 48 ?_;refine ny (i:=17) (N:=some 49) (rs true [18,1]) rfl rfl (jM aj.out (by kernel_rfl)) (by decide) (fun K hK => ?_);refine Kd.pE k38 (w0:=w) w.heap.size (by rfl) (.tmp 32) (.tmp 48) 27 38 (.agg #[(.int .i64 0),(.int .i64 0)]) 16 rfl Tryz.underlying27 uj rfl (by decide) (by omega) u6 aA (⟨wrap64 (((gN l0 aa).f0)+a1),wrap64 (((gN l0 aa).f1)+a1)⟩:S38) [.int .i64 (wrap64 (((gN l0 aa).f0)+a1)),.int .i64 (wrap64 (((gN l0 aa).f1)+a1))] (fun _=>True) (fun _=>False) rfl rfl ?aP (fun _ hk=>hk.elim) ?aF ?aO ?aB ?aS ?aL ?_;(case aP=>exact oV _ _ _ (⟨wrap64 (((gN l0 aa).f0)+a1),wrap64 (((gN l0 aa).f1)+a1)⟩:S38));(case aB=>exact (bl HB.out));(case aF=>exact (fun _ _=>trivial))
      (case aO=>exact (kr aC.out))
      (case aS=>exact (iL (bl HB.out)))
      (case aL=>have:=a0.out;omega)
      intro a4 w9 ho hb hg hat;rw [← aQ.out] at ho;replace HB:=am (hb);have aU:=am (ho);clear aC;clear ho hb hg hat;refine hK.out _ _ ⟨((HB.out.cell (World.block_lt_of_cell? w _ ag)).trans ag),((HB.out.cell (World.block_lt_of_cell? w _ af)).trans af),((HB.out.cell (World.block_lt_of_cell? w _ ai)).trans ai),((HB.out.cell (World.block_lt_of_cell? w _ ah)).trans ah)⟩ (fun hHeld => ?_);clear hK K;refine nx 49 ?_;refine px 18 6 (rs true [19]) aj.out ?_;refine mU (kI aj.out (by kernel_rfl)) ?_;try go_wp2
      go_roundg k1
      case measure=>have:=aV.out;omega
      case rel=>exact ⟨(aM),(wrap64 (aa+1)),sm,H',⟨by have:=aV.out;omega⟩,⟨by (with_reducible repeat (first | apply Kd.jX | apply Kd.jY | apply Kd.jF));exact aU.out⟩,⟨bl HB.out⟩⟩
   ·rw [if_neg c3] at H
    have aX:=decide_eq_false c3;clear c3;simp only [Option.some.injEq,Prod.mk.injEq] at H;obtain ⟨rfl,rfl⟩:=H;go_wp2;go_ret2;exact ⟨_,rt,by (with_reducible repeat (first | apply Kd.jX | apply Kd.jY | apply Kd.jF));exact aC.out,bl HB.out⟩
def mY.f (a0:Int) (a1:Int):Option (Int × Int):=if a1=0 then (none) else (if (Int.tmod a0 a1)<0 then (some (wrap64 ((wrap64 (Int.tdiv a0 a1)) - 1),wrap64 ((Int.tmod a0 a1)+a1))) else (some (wrap64 (Int.tdiv a0 a1),Int.tmod a0 a1)))
set_option maxHeartbeats 8000000 in
set_option maxRecDepth 100000 in
theorem mY.calls (a0:Int) (a1:Int) (r1:Int) (r2:Int) (w:World) (h:mY.f a0 a1=some (r1,r2)) :
 Calls Tryz.prog 74 #[.int .i64 a0,.int .i64 a1] w fun e w'=>e=.returned (.tuple #[.int .i64 r1,.int .i64 r2])∧iZ w w':=by
 have H:(if a1=0 then (none) else (if (Int.tmod a0 a1)<0 then (some (wrap64 ((wrap64 (Int.tdiv a0 a1)) - 1),wrap64 ((Int.tmod a0 a1)+a1))) else (some (wrap64 (Int.tdiv a0 a1),Int.tmod a0 a1))))=some (r1,r2):=h;clear h;by_cases c3:a1=0
 ·rw [if_pos c3] at H
  exact absurd H (by simp)
 ·rw [if_neg c3] at H
  have ab:(a1==0)=false:=beq_eq_false_iff_ne.mpr c3;have ac:(a1 != 0)=true:=bne_iff_ne.mpr c3;by_cases c4:(Int.tmod a0 a1)<0
  ·rw [if_pos c4] at H
   have aa:=decide_eq_true c4;clear c4;simp only [Option.some.injEq,Prod.mk.injEq] at H;obtain ⟨rfl,rfl⟩:=H;go_enter Tryz.func74,Tryz.ntmps74;go_wp2;go_ret2;exact ⟨by first | rfl | (simp;done) | (simp [*];done),by repeat (first | exact iZ.refl _ | apply iZ.step)⟩
  ·rw [if_neg c4] at H
   have aa:=decide_eq_false c4;clear c4;simp only [Option.some.injEq,Prod.mk.injEq] at H;obtain ⟨rfl,rfl⟩:=H;go_enter Tryz.func74,Tryz.ntmps74;go_wp2;go_ret2;exact ⟨by first | rfl | (simp;done) | (simp [*];done),by repeat (first | exact iZ.refl _ | apply iZ.step)⟩
def ko.l0:Nat→Int→Int→Int→Int→List (List (S38))→List (S50)→Option ((List (S38)) × Int)
 | 0,_,_,_,_,_,_=>none
 | k+1,x1,x6,x337000,x337001,x337002,x337003=>if x6<(x337003.length:Int) then (if 0≤x6 then (if ((gW x337003 x6).f0)=x1 then (some ((gW x337003 x6).f1,0)) else (ko.l0 k x1 (wrap64 (x6+1)) x337000 x337001 x337002 x337003)) else (none)) else (if x337001=0 then (some (([]:List (S38)),0)) else ((mY.f x1 x337001).bind fun aa=>(if 0≤aa.2 then (if aa.2<(x337002.length:Int) then (some (jr x337002 aa.2,aa.1)) else (none)) else (none))))
def ko.f (k:Nat) (aa:Int) (ab:Int) (ac:List (List (S38))) (ae:List (S50)) (a1:Int):Option ((List (S38)) × Int):=ko.l0 k a1 0 aa ab ac ae
set_option maxHeartbeats 8000000 in
set_option maxRecDepth 100000 in
theorem ko.calls (k:Nat) (aG:Int) (ai:Int) (ay:Nat→Prop) (aH:Option Addr) (aI:Nat) (af:List (List (S38))) (az:Nat→Prop) (aJ:Option Addr) (aK:Nat) (ac:List (S50)) (a1:Int) (r1:List (S38)) (r2:Int) (w:World) (bq:Kd.V (Kd.slice 38 k38) 27 w w.heap.size (fun k_=>ay k_) (.slice aH af.length aI) af) (br:Kd.V k50 50 w w.heap.size (fun k_=>az k_) (.slice aJ ac.length aK) ac) (h:ko.f k aG ai af ac a1=some (r1,r2)) :
 Calls Tryz.prog 53 #[.agg #[.int .i64 aG,.int .i64 ai,.slice aH af.length aI,.slice aJ ac.length aK],.int .i64 a1] w fun e w'=>∃ v0_:Value,e=.returned (.tuple #[v0_,.int .i64 r2])∧Kd.V k38 38 w' w.heap.size (fun k_=>((ay k_∨az k_)∨w.heap.size≤k_)) v0_ r1∧Below w.heap.size w w':=by
 have cG:=Tryz.underlying25;have aW:=am (show Kd.V (Kd.slice 38 k38) 27 w w.heap.size (fun k_=>((ay k_∨az k_)∨w.heap.size≤k_)) (.slice aH af.length aI) af from Kd.lJ bq (fun k_ hk=>.inl (.inl hk)));have aX:=am (show Kd.V k50 50 w w.heap.size (fun k_=>((ay k_∨az k_)∨w.heap.size≤k_)) (.slice aJ ac.length aK) ac from Kd.lJ br (fun k_ hk=>.inl (.inr hk)));have HB:=am (Below.refl w.heap.size w);have H:(ko.l0 k a1 0 aG ai af ac)=some (r1,r2):=h;clear h;have H':=am H;clear H;go_enter Tryz.func53,Tryz.ntmps53;go_wp2_with (first | ((with_reducible refine iC (N:=2) rfl ?_);refine bx 2 25 #[.int .i64 aG,.int .i64 ai,.slice aH af.length aI,.slice aJ ac.length aK] ?_;intro aA hg w3 bh hb;replace aW:=am (Kd.pq (Kd.oO (kv aW.out) aA (Nat.le_of_eq hg.symm)) hb);replace aX:=am (Kd.pq (Kd.oO (kv aX.out) aA (Nat.le_of_eq hg.symm)) hb);have aq:=am (bh);have bs:=am ((bz hg HB.out:w.heap.size≤aA));have aF:=bs;replace HB:=xb HB hb;clear hb bh hg));go_loopg [6] k (fun kq v6 w'=>∃ (aa:Int),v6=.int .i64 aa∧gL (ko.l0 kq a1 aa aG ai af ac=some (r1,r2))∧gL (kq≤k)∧gL (Kd.V (Kd.slice 38 k38) 27 w' w.heap.size (fun k_=>((ay k_∨az k_)∨w.heap.size≤k_)∧k_≠aA) (.slice aH af.length aI) af)∧gL (Kd.V k50 50 w' w.heap.size (fun k_=>((ay k_∨az k_)∨w.heap.size≤k_)∧k_≠aA) (.slice aJ ac.length aK) ac)∧gL (w'.heap[aA]? = some (.cells #[.int .i64 aG,.int .i64 ai,(.slice aH af.length aI),(.slice aJ ac.length aK)] 25 (0,0)))∧gL (Below w.heap.size w w'))
 case atStart=>exact ⟨(0),sm,H',⟨Nat.le_refl _⟩,⟨by (with_reducible repeat (first | apply Kd.lH | apply Kd.lI | apply Kd.mh));exact aW.out⟩,⟨by (with_reducible repeat (first | apply Kd.lH | apply Kd.lI | apply Kd.mh));exact aX.out⟩,⟨kp aq.out⟩,⟨bl1 HB.out aF.out⟩⟩
 case round =>
  clear H';obtain ⟨aa,rfl,HA,bw,al,ab,aq,HB⟩:=hrel;cases gk with
  | zero=>exact absurd HA.out (by simp [ko.l0])
  | succ k1 =>
   have H:=HA.out;clear HA;simp only [ko.l0] at H;by_cases c4:aa<(ac.length:Int)
   ·rw [if_pos c4] at H
    have bA:=decide_eq_true c4;clear c4;by_cases c5:0≤aa
    case neg=>rw [if_neg c5] at H;exact absurd H (by simp)
    rw [if_pos c5] at H;have cH:=decide_eq_true c5;clear c5;by_cases c6:((gW ac aa).f0)=a1
    ·rw [if_pos c6] at H
     have bB:=beq_iff_eq.mpr c6;have bC:=bne_eq_false_iff_eq.mpr c6;clear c6;simp only [Option.some.injEq,Prod.mk.injEq] at H;obtain ⟨rfl,rfl⟩:=H;obtain ⟨cb,cd,ce,cf,cg,ch,ci,cj⟩:=b4 aq.out;have au:0≤(aa:Int):=of_decide_eq_true asm;have av:aa<(ac.length:Int):=of_decide_eq_true asm;obtain ⟨a6,bi,bj,a5,a7,aB,ao,ap⟩:=kZ (Kd.ku ab.out).2.2 aa au av;cases a5;obtain ⟨bu,aP,aQ,aw⟩:=Kd.xJ ab.out z50 aa au (by first | exact av | exact of_decide_eq_true asm | (have e_:=(Kd.ku ab.out).1;omega));obtain ⟨a8,a9,rfl,ag,ah⟩:=sw aQ;have ae:=aw 1 _ rfl;rw [pQ _ _ 1 (by omega)] at ae;replace ae:=Option.some.inj (ae.symm.trans aB);injection ae with aj aE ak
     rw [aj] at ah;rw [ak] at ag;have ba:=am (show Kd.V k38 38 _ w.heap.size _ _ ((gW ac aa).f1) from Kd.sS ag ah);clear aj aE ak ah ag;clear aw aP;have bb:=am ap;have bd:=am ao;clear ap ao;replace au:=eq_true au;replace av:=eq_true av;have aY:0≤(aa:Int):=of_decide_eq_true asm;have aZ:aa<(ac.length:Int):=of_decide_eq_true asm;obtain ⟨bv,ck,cm,bD,bI,aR,aS,aT⟩:=kZ (Kd.ku ab.out).2.2 aa aY aZ;obtain rfl:a6=bv:=(by injection bD);obtain ⟨cB,bk,bm,a3⟩:=Kd.xJ ab.out z50 aa aY (by first | exact aZ | exact of_decide_eq_true asm | (have e_:=(Kd.ku ab.out).1;omega));obtain ⟨bJ,bK,rfl,aL,aM⟩:=sw bm;have aC:=a3 1 _ rfl;rw [pQ _ _ 1 (by omega)] at aC;replace aC:=Option.some.inj (aC.symm.trans aR);injection aC with aj aE ak
     rw [aj] at aM;rw [ak] at aL;have be:=am (show Kd.V k38 38 _ w.heap.size _ _ ((gW ac aa).f1) from Kd.sS aL aM);clear aj aE ak aM aL;clear a3 bk;have bL:=am aT;have bM:=am aS;clear aT aS;replace aY:=eq_true aY;replace aZ:=eq_true aZ;have bn:=Option.some.inj (aB.symm.trans aR);injection bn with bn cn co
     subst bn;subst co;clear cn;go_wp2;go_ret2;exact ⟨_,rt,by (with_reducible repeat (first | apply Kd.lH | apply Kd.lI | apply Kd.mh));exact Kd.lJ be.out (fun _ hk=>hk.1),bl1 HB.out aF.out⟩
    ·rw [if_neg c6] at H
     have bB:(((gW ac aa).f0)==a1)=false:=beq_eq_false_iff_ne.mpr c6;have bC:(((gW ac aa).f0) != a1)=true:=bne_iff_ne.mpr c6;have H':=am H;clear H;obtain ⟨cp,cq,cr,ct,cu,cv,cw,cx⟩:=b4 aq.out;have au:0≤(aa:Int):=of_decide_eq_true asm;have av:aa<(ac.length:Int):=of_decide_eq_true asm;obtain ⟨a6,bi,bj,a5,a7,aB,ao,ap⟩:=kZ (Kd.ku ab.out).2.2 aa au av;cases a5;obtain ⟨bu,aP,aQ,aw⟩:=Kd.xJ ab.out z50 aa au (by first | exact av | exact of_decide_eq_true asm | (have e_:=(Kd.ku ab.out).1;omega));obtain ⟨a8,a9,rfl,ag,ah⟩:=sw aQ;have ae:=aw 1 _ rfl;rw [pQ _ _ 1 (by omega)] at ae;replace ae:=Option.some.inj (ae.symm.trans aB);injection ae with aj aE ak
     rw [aj] at ah;rw [ak] at ag;have ba:=am (show Kd.V k38 38 _ w.heap.size _ _ ((gW ac aa).f1) from Kd.sS ag ah);clear aj aE ak ah ag;clear aw aP;have bb:=am ap;have bd:=am ao;clear ap ao;replace au:=eq_true au;replace av:=eq_true av;go_wp2;go_roundg k1
     case measure=>have:=bw.out;omega
     case rel=>exact ⟨(wrap64 (aa+1)),sm,H',⟨by have:=bw.out;omega⟩,⟨by (with_reducible repeat (first | apply Kd.lH | apply Kd.lI | apply Kd.mh));exact al.out⟩,⟨by (with_reducible repeat (first | apply Kd.lH | apply Kd.lI | apply Kd.mh));exact ab.out⟩,⟨kp aq.out⟩,⟨bl1 HB.out aF.out⟩⟩
   ·rw [if_neg c4] at H
    have bA:=decide_eq_false c4;clear c4;by_cases c9:ai=0
    ·rw [if_pos c9] at H
     have bE:=beq_iff_eq.mpr c9;have bF:=bne_eq_false_iff_eq.mpr c9;clear c9;simp only [Option.some.injEq,Prod.mk.injEq] at H;obtain ⟨rfl,rfl⟩:=H;obtain ⟨bN,bO,bP,bQ,bR,bS,bT,bU⟩:=b4 aq.out;go_wp2;go_ret2;exact ⟨_,rt,(by first | exact Kd.nJ _ _ _ _ _ | exact Kd.lJ (Kd.R_V (by first | exact Kd.nM _ _ _ _ _ | exact Kd.oD _ _ _ _ _ | exact Kd.nJ _ _ _ _ _ | exact Kd.ow _ _ _ _ _ | exact Kd.oz _ _ _ _ _)) (fun k_ hk=>by first | exact ⟨(.inr (hk.1)),hk.2⟩ | exact (.inr (hk)))),bl1 HB.out aF.out⟩
    ·rw [if_neg c9] at H
     have bE:(ai==0)=false:=beq_eq_false_iff_ne.mpr c9;have bF:(ai != 0)=true:=bne_iff_ne.mpr c9;replace H:=Option.bind_eq_some_iff.mp H;obtain ⟨⟨bG,ax⟩,A110,H⟩:=H;try dsimp only at H
     have cy:=am A110;clear A110;by_cases c12:0≤ax
     case neg=>rw [if_neg c12] at H;exact absurd H (by simp)
     rw [if_pos c12] at H;have cC:=decide_eq_true c12;clear c12;by_cases c13:ax<(af.length:Int)
     case neg=>rw [if_neg c13] at H;exact absurd H (by simp)
     rw [if_pos c13] at H;have cD:=decide_eq_true c13;clear c13;simp only [Option.some.injEq,Prod.mk.injEq] at H;obtain ⟨rfl,rfl⟩:=H;obtain ⟨bV,bW,bX,bY,bZ,b0,b5,b6⟩:=b4 aq.out;go_wp2_with (first | ((with_reducible refine gP (f:=74) rfl ?_);refine gl 37 Tryz.func74 #[.int .i64 a1,.int .i64 ai] ?_;(with_reducible refine (mY.calls a1 ai bG ax _ cy.out).mono ?_);rintro e w' ⟨rfl,⟨nd,rfl⟩⟩;refine ⟨_,rfl,?_⟩;have a0:0≤(ax:Int):=of_decide_eq_true asm;have a2:ax<(af.length:Int):=of_decide_eq_true asm;obtain ⟨cE,cz,cA,bH,bf,aU,aV⟩:=nS (Kd.ku al.out).2.2 ax a0 a2;cases bH;obtain ⟨cF,bo,bp,a4⟩:=Kd.xJ al.out [] ax a0 (by first | exact a2 | exact of_decide_eq_true asm | (have e_:=(Kd.ku al.out).1;omega));obtain ⟨b7,b8,rfl,aN,aO⟩:=Kd.lq bp;have aD:=a4 0 _ rfl;rw [Nat.add_zero,show ((Kd.slice 38 k38)).sz=1 from rfl,Nat.mul_one] at aD;replace aD:=Option.some.inj (aD.symm.trans bf);injection aD with aj aE ak;rw [aj] at aO;rw [ak] at aN;have bg:=am (show Kd.V k38 38 _ w.heap.size _ _ (jr af ax) from Kd.sS aN aO);clear aj aE ak aO aN;clear a4 bo;have b9:=am aV;have ca:=am aU;clear aV aU;replace a0:=eq_true a0;replace a2:=eq_true a2));go_ret2;exact ⟨_,rt,by (with_reducible repeat (first | apply Kd.lH | apply Kd.lI | apply Kd.mh));exact Kd.lJ bg.out (fun _ hk=>hk.1),bl1 HB.out aF.out⟩
end Go.Proofs.YtmbmalkpmanaaaaGreat.P
