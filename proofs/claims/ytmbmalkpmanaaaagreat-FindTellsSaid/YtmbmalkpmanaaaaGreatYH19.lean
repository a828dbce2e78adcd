/- Lemmas for laws of chapter 7: what the functions that they reach compute. No condition of its own. -/
import Derived.Test.YtmbmalkpmanaaaaGreatYH4
import Derived.Test.YtmbmalkpmanaaaaGreatYH2
import Derived.Test.YtmbmalkpmanaaaaGreatYH18
namespace Go.Proofs.YtmbmalkpmanaaaaGreat.P
open Go.RowKit Go.Proofs.YtmbmalkpmanaaaaGreatW.iD Go.Proofs.YtmbmalkpmanaaaaGreatW.jA Go.Proofs.YtmbmalkpmanaaaaGreatW.jw
attribute [local go_sem] lS lT mG mH kU kV lU lV   -- for this text's walks alone
set_option linter.unusedVariables false
set_option linter.unusedSimpArgs false
mutual
def iX.j0:Nat→Int→Bool→Int→Int→List (List (S38))→List (S50)→Option ((List (S38)) × Int)
 | 0,_,_,_,_,_,_=>none
 | k+1,x1,x13,x350000,x350001,x350002,x350003=>if x13=true then (some (([]:List (S38)),20)) else ((ko.f k x350000 x350001 x350002 x350003 x1).bind fun aa=>(if (aa.1.length:Int)=0 then (iX.j1 k aa.1 aa.2 true x350000 x350001 x350002 x350003) else (iX.j1 k aa.1 aa.2 (aa.2==0) x350000 x350001 x350002 x350003)))
def iX.j1:Nat→List (S38)→Int→Bool→Int→Int→List (List (S38))→List (S50)→Option ((List (S38)) × Int)
 | 0,_,_,_,_,_,_,_=>none
 | k+1,x6,x7,x26,x350000,x350001,x350002,x350003=>if x26=true then ((some (([]:List (S38)):List (S38))).bind fun ab=>(if ab.length+x6.length<8796093022208 then (some ((ab++x6),0)) else (none))) else (if x350000=0 then (none) else (if x7>(wrap64 ((wrap64 (Int.tdiv 2199023255552 x350000))+1)) then (some (([]:List (S38)),20)) else (if x7<(wrap64 ((wrap64 (-(Int.tdiv 2199023255552 x350000))) - 1)) then (some (([]:List (S38)),20)) else ((jq.f k x6 (wrap64 (x7*x350000))).bind fun aa=>(some (aa.1,aa.2))))))
end
def iX.f (k:Nat) (aa:Int) (ab:Int) (ac:List (List (S38))) (ae:List (S50)) (a1:Int):Option ((List (S38)) × Int):=if a1<(-1099511627776) then (iX.j0 k a1 true aa ab ac ae) else (iX.j0 k a1 (decide (a1>1099511627776)) aa ab ac ae)
set_option maxHeartbeats 8000000 in
set_option maxRecDepth 100000 in
theorem iX.calls (k:Nat) (aa:Int) (ah:Int) (al:Option Addr) (ao:Nat) (ae:List (List (S38))) (ap:Option Addr) (aq:Nat) (af:List (S50)) (a1:Int) (r1:List (S38)) (r2:Int) (w:World) (aM:Kd.C (Kd.slice 38 k38) w al ae.length ae) (aN:ae.length≤ao) (aP:Kd.C k50 w ap af.length af) (aQ:af.length≤aq) (h:iX.f k aa ah ae af a1=some (r1,r2)) :
 Calls Tryz.prog 27 #[.agg #[.int .i64 aa,.int .i64 ah,.slice al ae.length ao,.slice ap af.length aq],.int .i64 a1] w fun e w'=>∃ v0_:Value,e=.returned (.tuple #[v0_,.int .i64 r2])∧Kd.R k38 38 w' w.heap.size (fun _=>True) v0_ r1∧Below w.heap.size w w':=by
 have b9:=Tryz.underlying25;have a7:=am aM;have a8:=am aN;clear aM aN;have a9:=am aP;have ba:=am aQ;clear aP aQ;have HB:=am (Below.refl w.heap.size w);have H:(if a1<(-1099511627776) then (iX.j0 k a1 true aa ah ae af) else (iX.j0 k a1 (decide (a1>1099511627776)) aa ah ae af))=some (r1,r2):=h;clear h;have aV:=am H;clear H;go_enter Tryz.func27,Tryz.ntmps27;go_upto_region 1 with (first | ((with_reducible refine iC (N:=2) rfl ?_);refine bx 2 25 #[.int .i64 aa,.int .i64 ah,.slice al ae.length ao,.slice ap af.length aq] ?_;intro ak hg w4 aW hb;have ab:=am (aW);have aH:=am ((bz hg HB.out:w.heap.size≤ak));have ac:=aH;replace HB:=xb HB hb;clear hb aW hg))
 (try simp only [Act.put,List.setIfInBounds_toArray,List.set_cons_zero,List.set_cons_succ])
 go_cut [13] (fun v13 wc=>∃ (kq:Nat) (aA:Bool),v13=.bool aA∧gL (iX.j0 kq a1 aA aa ah ae af=some (r1,r2))∧gL (kq≤k)∧gL (wc.heap[ak]? = some (.cells #[.int .i64 aa,.int .i64 ah,(.slice al ae.length ao),(.slice ap af.length aq)] 25 (0,0)))∧gL (Below w.heap.size w wc))
 case first =>
  have H:=aV.out;clear aV;by_cases c5:a1<(-1099511627776)
  ·rw [if_pos c5] at H
   have aE:=decide_eq_true c5;clear c5;(first | rw [aE] | (simp only [nA,pF];rw [aE]) | skip);have H':=am H;clear H;go_wp2;go_meet
   case rel=>exact ⟨_,(true),sm,H',⟨by first | omega | exact Nat.le_refl _⟩,⟨kp ab.out⟩,⟨bl1 HB.out ac.out⟩⟩
  ·rw [if_neg c5] at H
   have aE:=decide_eq_false c5;clear c5;(first | rw [aE] | (simp only [nA,pF];rw [aE]) | skip);have H':=am H;clear H;go_wp2;go_meet
   case rel=>exact ⟨_,(decide (a1>1099511627776)),sm,H',⟨by first | omega | exact Nat.le_refl _⟩,⟨kp ab.out⟩,⟨bl1 HB.out ac.out⟩⟩
 case rest =>
  clear aV;obtain ⟨kq,aA,rfl,HA,HJ2,ab,HB⟩:=hcut;cases kq with
  | zero=>exact absurd HA.out (by simp [iX.j0])
  | succ kj2 =>
   have H:=HA.out;clear HA;simp only [iX.j0] at H;by_cases c6:aA=true
   ·subst c6
    have H1:(some (([]:List (S38)),20))=some (r1,r2):=by rw [if_pos rfl] at H;exact H
    clear H;have H:=H1;clear H1;simp only [Option.some.injEq,Prod.mk.injEq] at H;obtain ⟨rfl,rfl⟩:=H;go_wp2;go_ret2;exact ⟨_,rt,by first | exact Kd.nM _ _ _ _ _ | exact Kd.oD _ _ _ _ _ | exact Kd.nJ _ _ _ _ _ | exact Kd.ow _ _ _ _ _ | exact Kd.oz _ _ _ _ _,bl1 HB.out ac.out⟩
   ·replace c6:=Bool.eq_false_iff.mpr c6
    subst c6;have H1:((ko.f kj2 aa ah ae af a1).bind fun av=>(if (av.1.length:Int)=0 then (iX.j1 kj2 av.1 av.2 true aa ah ae af) else (iX.j1 kj2 av.1 av.2 (av.2==0) aa ah ae af)))=some (r1,r2):=by rw [if_neg (show ¬ (false=true) by decide)] at H;exact H
    clear H;have H:=H1;clear H1;replace H:=Option.bind_eq_some_iff.mp H;obtain ⟨⟨ag,ai⟩,A70,H⟩:=H;try dsimp only at H
    have A7:=am A70;clear A70;have aX:=am H;clear H;obtain ⟨aY,aZ,a0,a2,a3,a4,a5,a6⟩:=b4 ab.out;go_upto_region 4 with (first | ((with_reducible refine gP (f:=53) rfl ?_);refine gl 17 Tryz.func53 #[.agg #[.int .i64 aa,.int .i64 ah,.slice al ae.length ao,.slice ap af.length aq],.int .i64 a1] ?_;(with_reducible refine (ko.calls kj2 aa ah (fun k_=>k_<w.heap.size) _ _ ae (fun k_=>k_<w.heap.size) _ _ af a1 ag ai _ ?aI ?aJ A7.out).mono ?_);(case aI=>exact Kd.sS a8.out (Kd.oC (Kd.C_F (Kd.oU 38 qF) a7.out) (bl1 HB.out ac.out)));(case aJ=>exact Kd.sS ba.out (Kd.oC (Kd.C_F su a9.out) (bl1 HB.out ac.out)));rintro e cj ⟨bk,rfl,ho0,hb⟩;refine ⟨_,rfl,?_⟩;have aC:=am (Kd.qQ (Kd.lJ (ok':=fun k_=>k_≠ak) ho0 (fun k_ bY=>Or.elim bY (fun hs_=>Or.elim hs_ (fun hs_=>fun e_=>Nat.not_le.2 hs_ (by rw [e_];exact aH.out)) (fun hs_=>fun e_=>Nat.not_le.2 hs_ (by rw [e_];exact aH.out))) (fun bZ=>(Kd.nY (g:=ak) (o:=.cells #[.int .i64 aa,.int .i64 ah,.slice al ae.length ao,.slice ap af.length aq] 25 (0,0)) (kp ab.out) k_ bZ)))) (iL (bl1 HB.out ac.out)));replace ab:=xk ab hb;replace HB:=xb1 HB ac hb;(try clear hb);(try clear ho0)))
    (try simp only [Act.put,List.setIfInBounds_toArray,List.set_cons_zero,List.set_cons_succ])
    go_cut [26] (fun v26 wc=>∃ (kq:Nat) (aD:Bool),v26=.bool aD∧gL (iX.j1 kq ag ai aD aa ah ae af=some (r1,r2))∧gL (kq≤kj2)∧gL (Kd.V k38 38 wc w.heap.size (fun k_=>k_≠ak) bk ag)∧gL (wc.heap[ak]? = some (.cells #[.int .i64 aa,.int .i64 ah,(.slice al ae.length ao),(.slice ap af.length aq)] 25 (0,0)))∧gL (Below w.heap.size w wc))
    case first =>
     have H:=aX.out;clear aX;by_cases c11:(ag.length:Int)=0
     ·rw [if_pos c11] at H
      have aw:=beq_iff_eq.mpr c11;have bb:=bne_eq_false_iff_eq.mpr c11;clear c11;(first | rw [aw] | (simp only [nA,pF];rw [aw]) | skip);have H':=am H;clear H;obtain ⟨ca,cb,bm⟩:=Kd.pV aC.out;subst bm;go_wp2;go_meet
      case rel=>exact ⟨_,(true),sm,H',⟨by have:=HJ2.out;first | omega | exact Nat.le_refl _⟩,⟨by (with_reducible repeat (first | apply Kd.lH | apply Kd.lI | apply Kd.mh));exact aC.out⟩,⟨kp ab.out⟩,⟨bl1 HB.out ac.out⟩⟩
     ·rw [if_neg c11] at H
      have aw:((ag.length:Int)==0)=false:=beq_eq_false_iff_ne.mpr c11;have bb:((ag.length:Int) != 0)=true:=bne_iff_ne.mpr c11;have b6:¬ (ag=[]):=fun h_=>c11 (by rw [h_];rfl);(first | rw [aw] | (simp only [nA,pF];rw [aw]) | skip);have H':=am H;clear H;obtain ⟨cd,ce,bn⟩:=Kd.pV aC.out;subst bn;go_wp2;go_meet
      case rel=>exact ⟨_,((ai==0)),sm,H',⟨by have:=HJ2.out;first | omega | exact Nat.le_refl _⟩,⟨by (with_reducible repeat (first | apply Kd.lH | apply Kd.lI | apply Kd.mh));exact aC.out⟩,⟨kp ab.out⟩,⟨bl1 HB.out ac.out⟩⟩
    case rest =>
     clear aX;try clear c6
     try clear aY
     try clear aZ
     try clear a0
     try clear a2
     try clear a3
     try clear a4
     try clear a5
     try clear a6
     obtain ⟨kq,aD,rfl,HA,ck,aj,ab,HB⟩:=hcut;cases kq with
     | zero=>exact absurd HA.out (by simp [iX.j1])
     | succ kj7 =>
      have H:=HA.out;clear HA;simp only [iX.j1] at H;by_cases c14:aD=true
      ·subst c14
       have H1:((some (([]:List (S38)):List (S38))).bind fun au=>(if au.length+ag.length<8796093022208 then (some ((au++ag),0)) else (none)))=some (r1,r2):=by rw [if_pos rfl] at H;exact H
       clear H;have H:=H1;clear H1;obtain ⟨au,ax⟩:∃ y_:List (S38),y_=(([]:List (S38))):=⟨_,rfl⟩;replace H:(if au.length+ag.length<8796093022208 then (some ((au++ag),0)) else (none))=some (r1,r2):=by first | (rw [ax];with_reducible exact H) | (have aG:=(Option.bind_some _ _).symm.trans H;rw [ax];with_reducible exact aG) | (have aG:=(Option.bind_some _ _).symm.trans H;with_reducible exact aG) | with_reducible exact H | (rw [ax];exact H) | exact H
       have aT:=am ax;clear ax;by_cases c15:au.length+ag.length<8796093022208
       case neg=>rw [if_neg c15] at H;exact absurd H (by simp)
       rw [if_pos c15] at H;have bd:=am c15;clear c15;obtain ⟨bo,ay⟩:∃ y_:List (S38),y_=(au++ag):=⟨_,rfl⟩;replace H:(some (bo,0))=some (r1,r2):=by first | (rw [ay];with_reducible exact H) | (have aG:=(Option.bind_some _ _).symm.trans H;rw [ay];with_reducible exact aG) | (have aG:=(Option.bind_some _ _).symm.trans H;with_reducible exact aG) | with_reducible exact H | (rw [ay];exact H) | exact H
       have be:=am ay;clear ay;simp only [Option.some.injEq,Prod.mk.injEq] at H;obtain ⟨rfl,rfl⟩:=H
       go_wp2_with (first | ((with_reducible refine iC (N:=27) rfl ?_);refine Kd.zO k38 _ 38 ?hg (N:=27) ?hd (xs:=([]:List (S38))) (inner:=[]) (ok:=fun _=>True) (okp:=fun _=>True) ?hr ?hp (fun _ hk=>hk) trivial (Below.refl _ _) (Nat.le_refl _) (by simp) ?_;(case hd=>rfl);(case hg=>rfl);(case hr=>first | (go_simp;done) | (go_simp;rfl));(case hp=>exact (mI.none _ _));intro bp w16 az hb b0 bf;clear b0 bf;(first | rw [← aT.out] at az | (simp only [Int.reduceToNat] at az;rw [← aT.out] at az));replace aj:=am (Kd.qD (kv aj.out) (Kd.kS az) hb);have aK:=am (Kd.kE az (iL (bl1 HB.out ac.out)));replace ab:=xk ab hb;replace HB:=xb1 HB ac hb;clear hb az;obtain ⟨cf,cg,bq⟩:=Kd.pV aj.out;subst bq) | ((with_reducible refine kY (b:=.append) (xs:=#[.tmp 27,.tmp 28]) rfl ?_);at_builtin;refine Kd.vR k38 (w0:=w) w.heap.size rfl (.tmp 27) (.tmp 28) 27 38 (.agg #[(.int .i64 0),(.int .i64 0)]) 16 rfl Tryz.underlying27 uj rfl (by decide) (by omega) bp au ag _ _ _ (fun _=>True) (fun _=>False) rfl rfl ?aO ?aR (fun _ _ h=>h) (fun _ h=>h.elim) ?aF ?aB ?aS ?aL ?_;(case aR=>exact kc (Kd.ku aj.out).2.2);(case aB=>exact (bl1 HB.out ac.out));(case aF=>exact (fun _ _=>trivial));(case aO=>exact (kr aK.out));(case aS=>exact (iL (bl1 HB.out ac.out)));(case aL=>have:=bd.out;omega);intro ch cm ho hb hg hat;rw [← be.out] at ho;replace aj:=am (Kd.o7 (ok:=(fun k_=>k_≠ak)) (kv aj.out) hg hat);replace ab:=am (lg (g:=ak) (o:=.cells #[.int .i64 aa,.int .i64 ah,.slice al ae.length ao,.slice ap af.length aq] 25 (0,0)) (kp ab.out) hg (Kd.aeJ aK.out ab.out (by decide)));replace HB:=am (hb);have bg:=am (ho);clear aK;clear ho hb hg hat))
       go_ret2
       exact ⟨_,rt,by (with_reducible repeat (first | apply Kd.jX | apply Kd.jY | apply Kd.jF));exact bg.out,bl1 HB.out ac.out⟩
      ·replace c14:=Bool.eq_false_iff.mpr c14
       subst c14;have H1:(if aa=0 then (none) else (if ai>(wrap64 ((wrap64 (Int.tdiv 2199023255552 aa))+1)) then (some (([]:List (S38)),20)) else (if ai<(wrap64 ((wrap64 (-(Int.tdiv 2199023255552 aa))) - 1)) then (some (([]:List (S38)),20)) else ((jq.f kj7 ag (wrap64 (ai*aa))).bind fun aU=>(some (aU.1,aU.2))))))=some (r1,r2):=by rw [if_neg (show ¬ (false=true) by decide)] at H;exact H
       clear H;have H:=H1;clear H1;by_cases c20:aa=0
       ·rw [if_pos c20] at H
        exact absurd H (by simp)
       ·rw [if_neg c20] at H
        have b7:(aa==0)=false:=beq_eq_false_iff_ne.mpr c20;have b8:(aa != 0)=true:=bne_iff_ne.mpr c20;by_cases c21:ai>(wrap64 ((wrap64 (Int.tdiv 2199023255552 aa))+1))
        ·rw [if_pos c21] at H
         have bh:decide ((wrap64 ((wrap64 (Int.tdiv 2199023255552 aa))+1))<ai)=true:=decide_eq_true c21;clear c21;simp only [Option.some.injEq,Prod.mk.injEq] at H;obtain ⟨rfl,rfl⟩:=H;obtain ⟨bA,bB,bC,bD,bE,bF,bG,bH⟩:=b4 ab.out;go_wp2;go_ret2;exact ⟨_,rt,by first | exact Kd.nM _ _ _ _ _ | exact Kd.oD _ _ _ _ _ | exact Kd.nJ _ _ _ _ _ | exact Kd.ow _ _ _ _ _ | exact Kd.oz _ _ _ _ _,bl1 HB.out ac.out⟩
        ·rw [if_neg c21] at H
         have bh:decide ((wrap64 ((wrap64 (Int.tdiv 2199023255552 aa))+1))<ai)=false:=decide_eq_false c21;clear c21;by_cases c23:ai<(wrap64 ((wrap64 (-(Int.tdiv 2199023255552 aa))) - 1))
         ·rw [if_pos c23] at H
          have bi:=decide_eq_true c23;clear c23;simp only [Option.some.injEq,Prod.mk.injEq] at H;obtain ⟨rfl,rfl⟩:=H;obtain ⟨bI,bJ,bK,bL,bM,bN,bO,bP⟩:=b4 ab.out;go_wp2;go_ret2;exact ⟨_,rt,by first | exact Kd.nM _ _ _ _ _ | exact Kd.oD _ _ _ _ _ | exact Kd.nJ _ _ _ _ _ | exact Kd.ow _ _ _ _ _ | exact Kd.oz _ _ _ _ _,bl1 HB.out ac.out⟩
         ·rw [if_neg c23] at H
          have bi:=decide_eq_false c23;clear c23;replace H:=Option.bind_eq_some_iff.mp H;obtain ⟨⟨br,bs⟩,A250,H⟩:=H;try dsimp only at H
          have b5:=am A250;clear A250;simp only [Option.some.injEq,Prod.mk.injEq] at H;obtain ⟨rfl,rfl⟩:=H;obtain ⟨bQ,bR,bS,bT,bU,bV,bW,bX⟩:=b4 ab.out;obtain ⟨bu,bv,bw⟩:=Kd.pV aj.out;subst bw;go_wp2_with (first | ((with_reducible refine gP (f:=54) rfl ?_);refine gl 49 Tryz.func54 #[.slice bu ag.length bv,.int .i64 (wrap64 (ai*aa))] ?_;(with_reducible refine (jq.calls kj7 _ _ ag (wrap64 (ai*aa)) br bs _ ?aI ?aJ b5.out).mono ?_);(case aI=>exact kc (Kd.ku aj.out).2.2);(case aJ=>exact (Kd.ku aj.out).2.1);rintro e cn ⟨ci,rfl,ho0,hb⟩;refine ⟨_,rfl,?_⟩;replace aj:=am (Kd.qD (kv aj.out) (Kd.kS ho0) hb);have bj:=am (Kd.kE ho0 (iL (bl1 HB.out ac.out)));replace ab:=xk ab hb;replace HB:=xb1 HB ac hb;(try clear hb);(try clear ho0)));go_ret2;exact ⟨_,rt,by (with_reducible repeat (first | apply Kd.jX | apply Kd.jY | apply Kd.jF));exact bj.out,bl1 HB.out ac.out⟩
def kg.l0:Nat→Int→Int→Int→Int→Int→List (List (S38))→List (S50)→Option (Int × Bool)
 | 0,_,_,_,_,_,_,_=>none
 | k+1,x1,x3,x10,x367000,x367001,x367002,x367003=>if x10≤x3 then ((iX.f k x367000 x367001 x367002 x367003 x10).bind fun aa=>(if aa.2=0 then ((jo.f k aa.1 x1).bind fun ab=>(if ab=true then (some (x10,true)) else (kg.l0 k x1 x3 (wrap64 (x10+1)) x367000 x367001 x367002 x367003))) else (kg.l0 k x1 x3 (wrap64 (x10+1)) x367000 x367001 x367002 x367003))) else (some (0,false))
def kg.f (k:Nat) (aa:Int) (ab:Int) (ac:List (List (S38))) (ae:List (S50)) (a1:Int) (a2:Int) (a3:Int):Option (Int × Bool):=kg.l0 k a1 a3 a2 aa ab ac ae
set_option maxHeartbeats 8000000 in
set_option maxRecDepth 100000 in
theorem kg.calls (k:Nat) (ag:Int) (ah:Int) (al:Option Addr) (ao:Nat) (ac:List (List (S38))) (ap:Option Addr) (aq:Nat) (ae:List (S50)) (a1:Int) (a2:Int) (a3:Int) (r1:Int) (r2:Bool) (w:World) (aC:Kd.C (Kd.slice 38 k38) w al ac.length ac) (aD:ac.length≤ao) (aE:Kd.C k50 w ap ae.length ae) (aF:ae.length≤aq) (h:kg.f k ag ah ac ae a1 a2 a3=some (r1,r2)) :
 Calls Tryz.prog 9 #[.agg #[.int .i64 ag,.int .i64 ah,.slice al ac.length ao,.slice ap ae.length aq],.int .i64 a1,.int .i64 a2,.int .i64 a3] w fun e w'=>e=.returned (.tuple #[.int .i64 r1,.bool r2])∧Below w.heap.size w w':=by
 have bk:=Tryz.underlying25;have ay:=am aC;have az:=am aD;clear aC aD;have aA:=am aE;have aB:=am aF;clear aE aF;have HB:=am (Below.refl w.heap.size w);have H:(kg.l0 k a1 a3 a2 ag ah ac ae)=some (r1,r2):=h;clear h;have H':=am H;clear H;go_enter Tryz.func9,Tryz.ntmps9;go_wp2_with (first | ((with_reducible refine iC (N:=4) rfl ?_);refine bx 4 25 #[.int .i64 ag,.int .i64 ah,.slice al ac.length ao,.slice ap ae.length aq] ?_;intro aG hg w5 aI hb;have ab:=am (aI);have aK:=am ((bz hg HB.out:w.heap.size≤aG));have af:=aK;replace HB:=xb HB hb;clear hb aI hg));go_loopg [10] k (fun kq v10 w'=>∃ (aa:Int),v10=.int .i64 aa∧gL (kg.l0 kq a1 a3 aa ag ah ac ae=some (r1,r2))∧gL (kq≤k)∧gL (w'.heap[aG]? = some (.cells #[.int .i64 ag,.int .i64 ah,(.slice al ac.length ao),(.slice ap ae.length aq)] 25 (0,0)))∧gL (Below w.heap.size w w'))
 case atStart=>exact ⟨(a2),sm,H',⟨Nat.le_refl _⟩,⟨kp ab.out⟩,⟨bl1 HB.out af.out⟩⟩
 case round =>
  clear H';obtain ⟨aa,rfl,HA,aH,ab,HB⟩:=hrel;cases gk with
  | zero=>exact absurd HA.out (by simp [kg.l0])
  | succ k1 =>
   have H:=HA.out;clear HA;simp only [kg.l0] at H;by_cases c6:aa≤a3
   ·rw [if_pos c6] at H
    have aM:=decide_eq_true c6;clear c6;replace H:=Option.bind_eq_some_iff.mp H;obtain ⟨⟨ax,aw⟩,A70,H⟩:=H;try dsimp only at H
    have A7:=am A70;clear A70;by_cases c8:aw=0
    ·rw [if_pos c8] at H
     have aN:=beq_iff_eq.mpr c8;have aO:=bne_eq_false_iff_eq.mpr c8;clear c8;replace H:=Option.bind_eq_some_iff.mp H;obtain ⟨aP,aL,H⟩:=H;try dsimp only at H
     have A9:=am aL;clear aL;by_cases c10:aP=true
     ·subst c10
      have H1:(some (aa,true))=some (r1,r2):=by rw [if_pos rfl] at H;exact H
      clear H;have H:=H1;clear H1;simp only [Option.some.injEq,Prod.mk.injEq] at H;obtain ⟨rfl,rfl⟩:=H;obtain ⟨aS,aT,aU,aV,aW,aX,aY,aZ⟩:=b4 ab.out;go_wp2_with (first | ((with_reducible refine gP (f:=27) rfl ?_);refine gl 22 Tryz.func27 #[.agg #[.int .i64 ag,.int .i64 ah,.slice al ac.length ao,.slice ap ae.length aq],.int .i64 aa] ?_;(with_reducible refine (iX.calls k1 ag ah _ _ ac _ _ ae aa ax aw _ ?ai ?aj ?au ?av A7.out).mono ?_);(case ai=>exact kc (Kd.iA ay.out HB.out));(case aj=>exact az.out);(case au=>exact kc (Kd.iA aA.out HB.out));(case av=>exact aB.out);rintro e bq ⟨aJ,rfl,ho0,hb⟩;refine ⟨_,rfl,?_⟩;have ak:=am (Kd.kE ho0 (iL (bl1 HB.out af.out)));replace ab:=xk ab hb;replace HB:=xb1 HB af hb;(try clear hb);(try clear ho0);obtain ⟨bm,bn,aQ⟩:=Kd.jT ak.out;subst aQ) | (go_at_call 28;(with_reducible refine (jo.calls k1 _ _ ax a1 true _ ?ai ?aj A9.out).mono ?_);(case ai=>exact kc (Kd.iG ak.out).2.2);(case aj=>exact (Kd.iG ak.out).2.1);rintro e w' ⟨rfl,⟨nd,rfl⟩⟩));go_ret2;exact ⟨rt,bl1 HB.out af.out⟩
     ·replace c10:=Bool.eq_false_iff.mpr c10
      subst c10;have H1:(kg.l0 k1 a1 a3 (wrap64 (aa+1)) ag ah ac ae)=some (r1,r2):=by rw [if_neg (show ¬ (false=true) by decide)] at H;exact H
      clear H;have H:=H1;clear H1;have H':=am H;clear H;obtain ⟨a0,a4,a5,a6,a7,a8,a9,ba⟩:=b4 ab.out;go_wp2_with (first | ((with_reducible refine gP (f:=27) rfl ?_);refine gl 22 Tryz.func27 #[.agg #[.int .i64 ag,.int .i64 ah,.slice al ac.length ao,.slice ap ae.length aq],.int .i64 aa] ?_;(with_reducible refine (iX.calls k1 ag ah _ _ ac _ _ ae aa ax aw _ ?ai ?aj ?au ?av A7.out).mono ?_);(case ai=>exact kc (Kd.iA ay.out HB.out));(case aj=>exact az.out);(case au=>exact kc (Kd.iA aA.out HB.out));(case av=>exact aB.out);rintro e br ⟨aJ,rfl,ho0,hb⟩;refine ⟨_,rfl,?_⟩;have ak:=am (Kd.kE ho0 (iL (bl1 HB.out af.out)));replace ab:=xk ab hb;replace HB:=xb1 HB af hb;(try clear hb);(try clear ho0);obtain ⟨bo,bp,aR⟩:=Kd.jT ak.out;subst aR) | (go_at_call 28;(with_reducible refine (jo.calls k1 _ _ ax a1 false _ ?ai ?aj A9.out).mono ?_);(case ai=>exact kc (Kd.iG ak.out).2.2);(case aj=>exact (Kd.iG ak.out).2.1);rintro e w' ⟨rfl,⟨nd,rfl⟩⟩));go_roundg k1
      case measure=>have:=aH.out;omega
      case rel=>exact ⟨(wrap64 (aa+1)),sm,H',⟨by have:=aH.out;omega⟩,⟨kp ab.out⟩,⟨bl1 HB.out af.out⟩⟩
    ·rw [if_neg c8] at H
     have aN:(aw==0)=false:=beq_eq_false_iff_ne.mpr c8;have aO:(aw != 0)=true:=bne_iff_ne.mpr c8;have H':=am H;clear H;obtain ⟨bb,bd,be,bf,bg,bh,bi,bj⟩:=b4 ab.out;go_wp2_with (first | ((with_reducible refine gP (f:=27) rfl ?_);refine gl 22 Tryz.func27 #[.agg #[.int .i64 ag,.int .i64 ah,.slice al ac.length ao,.slice ap ae.length aq],.int .i64 aa] ?_;(with_reducible refine (iX.calls k1 ag ah _ _ ac _ _ ae aa ax aw _ ?ai ?aj ?au ?av A7.out).mono ?_);(case ai=>exact kc (Kd.iA ay.out HB.out));(case aj=>exact az.out);(case au=>exact kc (Kd.iA aA.out HB.out));(case av=>exact aB.out);rintro e bs ⟨aJ,rfl,ho0,hb⟩;refine ⟨_,rfl,?_⟩;have ak:=am (Kd.kE ho0 (iL (bl1 HB.out af.out)));replace ab:=xk ab hb;replace HB:=xb1 HB af hb;(try clear hb);(try clear ho0)));go_roundg k1
     case measure=>have:=aH.out;omega
     case rel=>exact ⟨(wrap64 (aa+1)),sm,H',⟨by have:=aH.out;omega⟩,⟨kp ab.out⟩,⟨bl1 HB.out af.out⟩⟩
   ·rw [if_neg c6] at H
    have aM:=decide_eq_false c6;clear c6;simp only [Option.some.injEq,Prod.mk.injEq] at H;obtain ⟨rfl,rfl⟩:=H;go_wp2;go_ret2;exact ⟨rt,bl1 HB.out af.out⟩
def jI.l0:Nat→Int→Int→Int→Int→Int→List (List (S38))→List (S50)→Option (Int × Bool)
 | 0,_,_,_,_,_,_,_=>none
 | k+1,x1,x3,x10,x373000,x373001,x373002,x373003=>if x10≤x3 then ((iX.f k x373000 x373001 x373002 x373003 x10).bind fun aa=>(if aa.2=0 then (if (aa.1.length:Int)>0 then (if 0≤(wrap64 ((aa.1.length:Int) - 1)) then (if (wrap64 ((aa.1.length:Int) - 1))<(aa.1.length:Int) then (if ((gN aa.1 (wrap64 ((aa.1.length:Int) - 1))).f1)≥x1 then (some (x10,true)) else (jI.l0 k x1 x3 (wrap64 (x10+1)) x373000 x373001 x373002 x373003)) else (none)) else (none)) else (jI.l0 k x1 x3 (wrap64 (x10+1)) x373000 x373001 x373002 x373003)) else (jI.l0 k x1 x3 (wrap64 (x10+1)) x373000 x373001 x373002 x373003))) else (some (0,false))
def jI.f (k:Nat) (aa:Int) (ab:Int) (ac:List (List (S38))) (ae:List (S50)) (a1:Int) (a2:Int) (a3:Int):Option (Int × Bool):=jI.l0 k a1 a3 a2 aa ab ac ae
set_option maxHeartbeats 8000000 in
set_option maxRecDepth 100000 in
theorem jI.calls (k:Nat) (ah:Int) (ai:Int) (au:Option Addr) (av:Nat) (ae:List (List (S38))) (aw:Option Addr) (ax:Nat) (af:List (S50)) (a1:Int) (a2:Int) (a3:Int) (r1:Int) (r2:Bool) (w:World) (aJ:Kd.C (Kd.slice 38 k38) w au ae.length ae) (aK:ae.length≤av) (aL:Kd.C k50 w aw af.length af) (aM:af.length≤ax) (h:jI.f k ah ai ae af a1 a2 a3=some (r1,r2)) :
 Calls Tryz.prog 11 #[.agg #[.int .i64 ah,.int .i64 ai,.slice au ae.length av,.slice aw af.length ax],.int .i64 a1,.int .i64 a2,.int .i64 a3] w fun e w'=>e=.returned (.tuple #[.int .i64 r1,.bool r2])∧Below w.heap.size w w':=by
 have bK:=Tryz.underlying25;have aC:=am aJ;have aD:=am aK;clear aJ aK;have aE:=am aL;have aF:=am aM;clear aL aM;have HB:=am (Below.refl w.heap.size w);have H:(jI.l0 k a1 a3 a2 ah ai ae af)=some (r1,r2):=h;clear h;have H':=am H;clear H;go_enter Tryz.func11,Tryz.ntmps11;go_wp2_with (first | ((with_reducible refine iC (N:=4) rfl ?_);(try (refine kL (by rfl) ?_;dsimp only));refine bx 4 25 #[.int .i64 ah,.int .i64 ai,.slice au ae.length av,.slice aw af.length ax] ?_;intro aN hg w5 aQ hb;have aa:=am (aQ);have aR:=am ((bz hg HB.out:w.heap.size≤aN));have ag:=aR;replace HB:=xb HB hb;clear hb aQ hg));go_loopg [10] k (fun kq v10 w'=>∃ (ab:Int),v10=.int .i64 ab∧gL (jI.l0 kq a1 a3 ab ah ai ae af=some (r1,r2))∧gL (kq≤k)∧gL (w'.heap[aN]? = some (.cells #[.int .i64 ah,.int .i64 ai,(.slice au ae.length av),(.slice aw af.length ax)] 25 (0,0)))∧gL (Below w.heap.size w w'))
 case atStart=>exact ⟨(a2),sm,H',⟨Nat.le_refl _⟩,⟨kp aa.out⟩,⟨bl1 HB.out ag.out⟩⟩
 case round =>
  clear H';obtain ⟨ab,rfl,HA,aG,aa,HB⟩:=hrel;cases gk with
  | zero=>exact absurd HA.out (by simp [jI.l0])
  | succ k1 =>
   have H:=HA.out;clear HA;simp only [jI.l0] at H;by_cases c6:ab≤a3
   ·rw [if_pos c6] at H
    have aU:=decide_eq_true c6;clear c6;replace H:=Option.bind_eq_some_iff.mp H;obtain ⟨⟨ac,ay⟩,A70,H⟩:=H;try dsimp only at H
    have A7:=am A70;clear A70;by_cases c8:ay=0
    ·rw [if_pos c8] at H
     have aV:=beq_iff_eq.mpr c8;have aW:=bne_eq_false_iff_eq.mpr c8;clear c8;by_cases c9:(ac.length:Int)>0
     ·rw [if_pos c9] at H
      have aX:decide (0<(ac.length:Int))=true:=decide_eq_true c9;have aY:decide (0<ac.length)=true:=decide_eq_true (by omega);clear c9;obtain ⟨aj,aB⟩:∃ j_:Int,(wrap64 ((ac.length:Int) - 1))=j_:=⟨_,rfl⟩;replace H:(if 0≤(aj) then (if (aj)<(ac.length:Int) then (if ((gN ac (aj)).f1)≥a1 then (some (ab,true)) else (jI.l0 k1 a1 a3 (wrap64 (ab+1)) ah ai ae af)) else (none)) else (none))=some (r1,r2):=by first | (rw [aB] at H;exact H) | (simp only [aB] at H ⊢;exact H)
      (try rw [aB] at A7)
      have bH:(IntKind.i64.wrap ((ac.length:Int) - 1))=aj:=(nA _).trans aB;by_cases c11:0≤(aj)
      case neg=>rw [if_neg c11] at H;exact absurd H (by simp)
      rw [if_pos c11] at H;have bI:=decide_eq_true c11;clear c11;by_cases c12:(aj)<(ac.length:Int)
      case neg=>rw [if_neg c12] at H;exact absurd H (by simp)
      rw [if_pos c12] at H;have bJ:=decide_eq_true c12;clear c12;by_cases c13:((gN ac (aj)).f1)≥a1
      ·rw [if_pos c13] at H
       have aS:decide (a1≤((gN ac (aj)).f1))=true:=decide_eq_true c13;clear c13;simp only [Option.some.injEq,Prod.mk.injEq] at H;obtain ⟨rfl,rfl⟩:=H;obtain ⟨a5,a6,a7,a8,a9,ba,bb,bd⟩:=b4 aa.out;go_wp2_with (first | ((with_reducible refine gP (f:=27) rfl ?_);refine gl 22 Tryz.func27 #[.agg #[.int .i64 ah,.int .i64 ai,.slice au ae.length av,.slice aw af.length ax],.int .i64 ab] ?_;(with_reducible refine (iX.calls k1 ah ai _ _ ae _ _ af ab ac ay _ ?al ?ao ?ap ?aq A7.out).mono ?_);(case al=>exact kc (Kd.iA aC.out HB.out));(case ao=>exact aD.out);(case ap=>exact kc (Kd.iA aE.out HB.out));(case aq=>exact aF.out);rintro e bR ⟨aH,rfl,ho0,hb⟩;refine ⟨_,rfl,?_⟩;have ak:=am (Kd.kE ho0 (iL (bl1 HB.out ag.out)));replace aa:=xk aa hb;replace HB:=xb1 HB ag hb;(try clear hb);(try clear ho0);obtain ⟨bL,bM,aZ⟩:=Kd.jT ak.out;subst aZ;have az:0≤((aj):Int):=of_decide_eq_true asm;have aA:(aj)<(ac.length:Int):=of_decide_eq_true asm;obtain ⟨aT,aI,aO,aP⟩:=j5 (Kd.iG ak.out).2.2 (aj) az aA;cases aI;replace az:=eq_true az;replace aA:=eq_true aA));go_ret2;exact ⟨by first | rfl | (simp [jV,jW] <;> rfl) | (simp only [← aB];first | rfl | (simp [jV,jW] <;> rfl)) | (simp [*,jV,jW] <;> rfl),bl1 HB.out ag.out⟩
      ·rw [if_neg c13] at H
       have aS:decide (a1≤((gN ac (aj)).f1))=false:=decide_eq_false c13;clear c13;have H':=am H;clear H;obtain ⟨be,bf,bg,bh,bi,bj,bk,bm⟩:=b4 aa.out;go_wp2_with (first | ((with_reducible refine gP (f:=27) rfl ?_);refine gl 22 Tryz.func27 #[.agg #[.int .i64 ah,.int .i64 ai,.slice au ae.length av,.slice aw af.length ax],.int .i64 ab] ?_;(with_reducible refine (iX.calls k1 ah ai _ _ ae _ _ af ab ac ay _ ?al ?ao ?ap ?aq A7.out).mono ?_);(case al=>exact kc (Kd.iA aC.out HB.out));(case ao=>exact aD.out);(case ap=>exact kc (Kd.iA aE.out HB.out));(case aq=>exact aF.out);rintro e bS ⟨aH,rfl,ho0,hb⟩;refine ⟨_,rfl,?_⟩;have ak:=am (Kd.kE ho0 (iL (bl1 HB.out ag.out)));replace aa:=xk aa hb;replace HB:=xb1 HB ag hb;(try clear hb);(try clear ho0);obtain ⟨bN,bO,a0⟩:=Kd.jT ak.out;subst a0;have az:0≤((aj):Int):=of_decide_eq_true asm;have aA:(aj)<(ac.length:Int):=of_decide_eq_true asm;obtain ⟨aT,aI,aO,aP⟩:=j5 (Kd.iG ak.out).2.2 (aj) az aA;cases aI;replace az:=eq_true az;replace aA:=eq_true aA));go_roundg k1
       case measure=>have:=aG.out;omega
       case rel=>exact ⟨(wrap64 (ab+1)),sm,H',⟨by have:=aG.out;omega⟩,⟨kp aa.out⟩,⟨bl1 HB.out ag.out⟩⟩
     ·rw [if_neg c9] at H
      have aX:decide (0<(ac.length:Int))=false:=decide_eq_false c9;have aY:decide (0<ac.length)=false:=decide_eq_false (by omega);clear c9;have H':=am H;clear H;obtain ⟨bn,bo,bp,bq,br,bs,bu,bv⟩:=b4 aa.out;go_wp2_with (first | ((with_reducible refine gP (f:=27) rfl ?_);refine gl 22 Tryz.func27 #[.agg #[.int .i64 ah,.int .i64 ai,.slice au ae.length av,.slice aw af.length ax],.int .i64 ab] ?_;(with_reducible refine (iX.calls k1 ah ai _ _ ae _ _ af ab ac ay _ ?al ?ao ?ap ?aq A7.out).mono ?_);(case al=>exact kc (Kd.iA aC.out HB.out));(case ao=>exact aD.out);(case ap=>exact kc (Kd.iA aE.out HB.out));(case aq=>exact aF.out);rintro e bT ⟨aH,rfl,ho0,hb⟩;refine ⟨_,rfl,?_⟩;have ak:=am (Kd.kE ho0 (iL (bl1 HB.out ag.out)));replace aa:=xk aa hb;replace HB:=xb1 HB ag hb;(try clear hb);(try clear ho0);obtain ⟨bP,bQ,a4⟩:=Kd.jT ak.out;subst a4));go_roundg k1
      case measure=>have:=aG.out;omega
      case rel=>exact ⟨(wrap64 (ab+1)),sm,H',⟨by have:=aG.out;omega⟩,⟨kp aa.out⟩,⟨bl1 HB.out ag.out⟩⟩
    ·rw [if_neg c8] at H
     have aV:(ay==0)=false:=beq_eq_false_iff_ne.mpr c8;have aW:(ay != 0)=true:=bne_iff_ne.mpr c8;have H':=am H;clear H;obtain ⟨bw,bA,bB,bC,bD,bE,bF,bG⟩:=b4 aa.out;go_wp2_with (first | ((with_reducible refine gP (f:=27) rfl ?_);refine gl 22 Tryz.func27 #[.agg #[.int .i64 ah,.int .i64 ai,.slice au ae.length av,.slice aw af.length ax],.int .i64 ab] ?_;(with_reducible refine (iX.calls k1 ah ai _ _ ae _ _ af ab ac ay _ ?al ?ao ?ap ?aq A7.out).mono ?_);(case al=>exact kc (Kd.iA aC.out HB.out));(case ao=>exact aD.out);(case ap=>exact kc (Kd.iA aE.out HB.out));(case aq=>exact aF.out);rintro e bU ⟨aH,rfl,ho0,hb⟩;refine ⟨_,rfl,?_⟩;have ak:=am (Kd.kE ho0 (iL (bl1 HB.out ag.out)));replace aa:=xk aa hb;replace HB:=xb1 HB ag hb;(try clear hb);(try clear ho0)));go_roundg k1
     case measure=>have:=aG.out;omega
     case rel=>exact ⟨(wrap64 (ab+1)),sm,H',⟨by have:=aG.out;omega⟩,⟨kp aa.out⟩,⟨bl1 HB.out ag.out⟩⟩
   ·rw [if_neg c6] at H
    have aU:=decide_eq_false c6;clear c6;simp only [Option.some.injEq,Prod.mk.injEq] at H;obtain ⟨rfl,rfl⟩:=H;go_wp2;go_ret2;exact ⟨rt,bl1 HB.out ag.out⟩
def l9.f (a0:Int) (a1:Bool) (a2:Bool):Option (Bool):=if a0=1 then (if a1=true then (some true) else (some a2)) else (if a0=2 then (if a1=true then (some a2) else (some false)) else (if a1=true then (some (!a2)) else (some false)))
set_option maxHeartbeats 8000000 in
set_option maxRecDepth 100000 in
theorem l9.calls (a0:Int) (a1:Bool) (a2:Bool) (r:Bool) (w:World) (h:l9.f a0 a1 a2=some r) :
 Calls Tryz.prog 69 #[.int .i64 a0,.bool a1,.bool a2] w fun e w'=>e=.returned (.bool r)∧iZ w w':=by
 have H:(if a0=1 then (if a1=true then (some true) else (some a2)) else (if a0=2 then (if a1=true then (some a2) else (some false)) else (if a1=true then (some (!a2)) else (some false))))=some r:=h;clear h;by_cases c4:a0=1
 ·rw [if_pos c4] at H
  have aa:=beq_iff_eq.mpr c4;have ab:=bne_eq_false_iff_eq.mpr c4;clear c4;by_cases c5:a1=true
  ·subst c5
   have H1:(some true)=some r:=by rw [if_pos rfl] at H;exact H
   clear H;have H:=H1;clear H1;obtain rfl:=Option.some.inj H;go_enter Tryz.func69,Tryz.ntmps69;go_wp2;go_ret;exact ⟨by first | rfl | (simp;done) | (simp [*];done),by repeat (first | exact iZ.refl _ | apply iZ.step)⟩
  ·replace c5:=Bool.eq_false_iff.mpr c5
   subst c5;have H1:(some a2)=some r:=by rw [if_neg (show ¬ (false=true) by decide)] at H;exact H
   clear H;have H:=H1;clear H1;obtain rfl:=Option.some.inj H;go_enter Tryz.func69,Tryz.ntmps69;go_wp2;go_ret;exact ⟨by first | rfl | (simp;done) | (simp [*];done),by repeat (first | exact iZ.refl _ | apply iZ.step)⟩
 ·rw [if_neg c4] at H
  have aa:(a0==1)=false:=beq_eq_false_iff_ne.mpr c4;have ab:(a0 != 1)=true:=bne_iff_ne.mpr c4;by_cases c6:a0=2
  ·rw [if_pos c6] at H
   have ac:=beq_iff_eq.mpr c6;have ae:=bne_eq_false_iff_eq.mpr c6;clear c6;by_cases c7:a1=true
   ·subst c7
    have H1:(some a2)=some r:=by rw [if_pos rfl] at H;exact H
    clear H;have H:=H1;clear H1;obtain rfl:=Option.some.inj H;go_enter Tryz.func69,Tryz.ntmps69;go_wp2;go_ret;exact ⟨by first | rfl | (simp;done) | (simp [*];done),by repeat (first | exact iZ.refl _ | apply iZ.step)⟩
   ·replace c7:=Bool.eq_false_iff.mpr c7
    subst c7;have H1:(some false)=some r:=by rw [if_neg (show ¬ (false=true) by decide)] at H;exact H
    clear H;have H:=H1;clear H1;obtain rfl:=Option.some.inj H;go_enter Tryz.func69,Tryz.ntmps69;go_wp2;go_ret;exact ⟨by first | rfl | (simp;done) | (simp [*];done),by repeat (first | exact iZ.refl _ | apply iZ.step)⟩
  ·rw [if_neg c6] at H
   have ac:(a0==2)=false:=beq_eq_false_iff_ne.mpr c6;have ae:(a0 != 2)=true:=bne_iff_ne.mpr c6;by_cases c8:a1=true
   ·subst c8
    have H1:(some (!a2))=some r:=by rw [if_pos rfl] at H;exact H
    clear H;have H:=H1;clear H1;obtain rfl:=Option.some.inj H;go_enter Tryz.func69,Tryz.ntmps69;go_wp2;go_ret;exact ⟨by first | rfl | (simp;done) | (simp [*];done),by repeat (first | exact iZ.refl _ | apply iZ.step)⟩
   ·replace c8:=Bool.eq_false_iff.mpr c8
    subst c8;have H1:(some false)=some r:=by rw [if_neg (show ¬ (false=true) by decide)] at H;exact H
    clear H;have H:=H1;clear H1;obtain rfl:=Option.some.inj H;go_enter Tryz.func69,Tryz.ntmps69;go_wp2;go_ret;exact ⟨by first | rfl | (simp;done) | (simp [*];done),by repeat (first | exact iZ.refl _ | apply iZ.step)⟩
def iP.l0:Nat→List Int→Int→List Int→Bool→Int→Option (List Int)
 | 0,_,_,_,_,_=>none
 | k+1,x0,x1,x5,x6,x7=>if x7<(x0.length:Int) then (if 0≤x7 then (if (rd x0 x7)=x1 then (if x5.length<17592186044416 then (iP.l0 k x0 x1 (x5++[rd x0 x7]) true (wrap64 (x7+1))) else (none)) else (if x6=true then (if x5.length<17592186044416 then (iP.l0 k x0 x1 (x5++[rd x0 x7]) x6 (wrap64 (x7+1))) else (none)) else (if (rd x0 x7)>x1 then (if x5.length<17592186044416 then ((some (x5++[x1]:List Int)).bind fun aa=>(if aa.length<17592186044416 then (iP.l0 k x0 x1 (aa++[rd x0 x7]) true (wrap64 (x7+1))) else (none))) else (none)) else (if x5.length<17592186044416 then (iP.l0 k x0 x1 (x5++[rd x0 x7]) x6 (wrap64 (x7+1))) else (none))))) else (none)) else (if x6=true then (some x5) else (if x5.length<17592186044416 then (some (x5++[x1])) else (none)))
def iP.f (k:Nat) (l0:List Int) (a1:Int):Option (List Int):=iP.l0 k l0 a1 ([]:List Int) false 0
set_option maxHeartbeats 8000000 in
set_option maxRecDepth 100000 in
theorem iP.calls (k:Nat) (A0:Option Addr) (c0:Nat) (l0:List Int) (a1:Int) (r:List Int) (w:World) (hr0:Kd.C (Kd.int .i64) w A0 l0.length l0) (hc0:l0.length≤c0) (h:iP.f k l0 a1=some r) :
 Calls Tryz.prog 89 #[.slice A0 l0.length c0,.int .i64 a1] w fun e w'=>∃ v0_:Value,e=.returned (v0_)∧Kd.R (Kd.int .i64) 3 w' w.heap.size (fun _=>True) v0_ r∧Below w.heap.size w w':=by
 have al:=am hr0;have bJ:=am hc0;clear hr0 hc0;have HB:=am (Below.refl w.heap.size w);have H:(iP.l0 k l0 a1 ([]:List Int) false 0)=some r:=h;clear h;have H':=am H;clear H;go_enter Tryz.func89,Tryz.ntmps89;go_wp2;go_loopg [5,6,7] k (fun kq v5 v6 v7 w'=>∃ (ab:List Int) (aC:Bool) (aa:Int),v6=.bool aC∧v7=.int .i64 aa∧gL (iP.l0 kq l0 a1 ab aC aa=some r)∧gL (kq≤k)∧gL (Kd.R (Kd.int .i64) 3 w' w.heap.size (fun _=>True) v5 ab)∧gL (Below w.heap.size w w'))
 case atStart=>exact ⟨(([]:List Int)),(false),(0),sm,sm,H',⟨Nat.le_refl _⟩,⟨by first | exact Kd.nM _ _ _ _ _ | exact Kd.oD _ _ _ _ _ | exact Kd.nJ _ _ _ _ _ | exact Kd.ow _ _ _ _ _ | exact Kd.oz _ _ _ _ _⟩,⟨bl HB.out⟩⟩
 case round =>
  clear H';obtain ⟨ab,aC,aa,rfl,rfl,HA,aA,ai,HB⟩:=hrel;cases gk with
  | zero=>exact absurd HA.out (by simp [iP.l0])
  | succ k1 =>
   have H:=HA.out;clear HA;simp only [iP.l0] at H;by_cases c3:aa<(l0.length:Int)
   ·rw [if_pos c3] at H
    have bo:=decide_eq_true c3;clear c3;by_cases c4:0≤aa
    case neg=>rw [if_neg c4] at H;exact absurd H (by simp)
    rw [if_pos c4] at H;have bD:=decide_eq_true c4;clear c4;by_cases c5:(rd l0 aa)=a1
    ·rw [if_pos c5] at H
     have bp:=beq_iff_eq.mpr c5;have bq:=bne_eq_false_iff_eq.mpr c5;clear c5;by_cases c6:ab.length<17592186044416
     case neg=>rw [if_neg c6] at H;exact absurd H (by simp)
     rw [if_pos c6] at H;have br:=am c6;clear c6;obtain ⟨aX,au⟩:∃ y_:List Int,y_=(ab++[rd l0 aa]):=⟨_,rfl⟩;replace H:(iP.l0 k1 l0 a1 aX true (wrap64 (aa+1)))=some r:=by first | (rw [au];with_reducible exact H) | (have ae:=(Option.bind_some _ _).symm.trans H;rw [au];with_reducible exact ae) | (have ae:=(Option.bind_some _ _).symm.trans H;with_reducible exact ae) | with_reducible exact H | (rw [au];exact H) | exact H
     have a2:=am au;clear au;have H':=am H;clear H;have af:0≤(aa:Int):=of_decide_eq_true asm;have ag:aa<(l0.length:Int):=of_decide_eq_true asm;obtain ⟨ah,ao,ac⟩:=Kd.mK al.out aa af ag;cases ao;replace ac:=xc HB ac;replace af:=eq_true af;replace ag:=eq_true ag;have aJ:0≤(aa:Int):=of_decide_eq_true asm;have aK:aa<(l0.length:Int):=of_decide_eq_true asm;obtain ⟨a3,bs,aD⟩:=Kd.mK al.out aa aJ aK;obtain rfl:ah=a3:=(by injection bs);replace aD:=xc HB aD;replace aJ:=eq_true aJ;replace aK:=eq_true aK;go_wp2_with (first | ((with_reducible refine kY (b:=.append) (xs:=#[.tmp 34,.tmp 39]) rfl ?_);at_builtin;refine Kd.oM (Kd.int .i64) (w0:=w) w.heap.size rfl (.tmp 34) (.tmp 39) 41 3 (.int .i64 0) 8 rfl Tryz.underlying41 info3 rfl (by decide) (by omega) u5 ab (rd l0 aa) [.int .i64 (rd l0 aa)] (fun _=>True) (fun _=>False) rfl rfl ?aP (fun _ hk=>hk.elim) ?aF ?aO ?aB ?aS ?aL ?_;(case aP=>exact rfl);(case aB=>exact (bl HB.out));(case aF=>exact (fun _ _=>trivial));(case aO=>exact (kr ai.out));(case aS=>exact (iL (bl HB.out)));(case aL=>have:=br.out;omega);intro bE w7 ho hb hg hat;rw [← a2.out] at ho;replace HB:=am (hb);have a4:=am (ho);clear ai;clear ho hb hg hat));go_roundg k1
     case measure=>have:=aA.out;omega
     case rel=>exact ⟨(aX),(true),(wrap64 (aa+1)),sm,sm,H',⟨by have:=aA.out;omega⟩,⟨by (with_reducible repeat (first | apply Kd.jX | apply Kd.jY | apply Kd.jF));exact a4.out⟩,⟨bl HB.out⟩⟩
    ·rw [if_neg c5] at H
     have bp:((rd l0 aa)==a1)=false:=beq_eq_false_iff_ne.mpr c5;have bq:((rd l0 aa) != a1)=true:=bne_iff_ne.mpr c5;by_cases c8:aC=true
     ·subst c8
      have H1:(if ab.length<17592186044416 then (iP.l0 k1 l0 a1 (ab++[rd l0 aa]) true (wrap64 (aa+1))) else (none))=some r:=by rw [if_pos rfl] at H;exact H
      clear H;have H:=H1;clear H1;by_cases c9:ab.length<17592186044416
      case neg=>rw [if_neg c9] at H;exact absurd H (by simp)
      rw [if_pos c9] at H;have bu:=am c9;clear c9;obtain ⟨aY,av⟩:∃ y_:List Int,y_=(ab++[rd l0 aa]):=⟨_,rfl⟩;replace H:(iP.l0 k1 l0 a1 aY true (wrap64 (aa+1)))=some r:=by first | (rw [av];with_reducible exact H) | (have ae:=(Option.bind_some _ _).symm.trans H;rw [av];with_reducible exact ae) | (have ae:=(Option.bind_some _ _).symm.trans H;with_reducible exact ae) | with_reducible exact H | (rw [av];exact H) | exact H
      have a5:=am av;clear av;have H':=am H;clear H;have af:0≤(aa:Int):=of_decide_eq_true asm;have ag:aa<(l0.length:Int):=of_decide_eq_true asm;obtain ⟨ah,ao,ac⟩:=Kd.mK al.out aa af ag;cases ao;replace ac:=xc HB ac;replace af:=eq_true af;replace ag:=eq_true ag;have aM:0≤(aa:Int):=of_decide_eq_true asm;have aN:aa<(l0.length:Int):=of_decide_eq_true asm;obtain ⟨a6,bv,aE⟩:=Kd.mK al.out aa aM aN;obtain rfl:ah=a6:=(by injection bv);replace aE:=xc HB aE;replace aM:=eq_true aM;replace aN:=eq_true aN;go_wp2_with (first | ((with_reducible refine kY (b:=.append) (xs:=#[.tmp 34,.tmp 39]) rfl ?_);at_builtin;refine Kd.oM (Kd.int .i64) (w0:=w) w.heap.size rfl (.tmp 34) (.tmp 39) 41 3 (.int .i64 0) 8 rfl Tryz.underlying41 info3 rfl (by decide) (by omega) u5 ab (rd l0 aa) [.int .i64 (rd l0 aa)] (fun _=>True) (fun _=>False) rfl rfl ?aP (fun _ hk=>hk.elim) ?aF ?aO ?aB ?aS ?aL ?_;(case aP=>exact rfl);(case aB=>exact (bl HB.out));(case aF=>exact (fun _ _=>trivial));(case aO=>exact (kr ai.out));(case aS=>exact (iL (bl HB.out)));(case aL=>have:=bu.out;omega);intro bF bK ho hb hg hat;rw [← a5.out] at ho;replace HB:=am (hb);have a7:=am (ho);clear ai;clear ho hb hg hat));go_roundg k1
      case measure=>have:=aA.out;omega
      case rel=>exact ⟨(aY),(true),(wrap64 (aa+1)),sm,sm,H',⟨by have:=aA.out;omega⟩,⟨by (with_reducible repeat (first | apply Kd.jX | apply Kd.jY | apply Kd.jF));exact a7.out⟩,⟨bl HB.out⟩⟩
     ·replace c8:=Bool.eq_false_iff.mpr c8
      subst c8;have H1:(if (rd l0 aa)>a1 then (if ab.length<17592186044416 then ((some (ab++[a1]:List Int)).bind fun ak=>(if ak.length<17592186044416 then (iP.l0 k1 l0 a1 (ak++[rd l0 aa]) true (wrap64 (aa+1))) else (none))) else (none)) else (if ab.length<17592186044416 then (iP.l0 k1 l0 a1 (ab++[rd l0 aa]) false (wrap64 (aa+1))) else (none)))=some r:=by rw [if_neg (show ¬ (false=true) by decide)] at H;exact H
      clear H;have H:=H1;clear H1;by_cases c11:(rd l0 aa)>a1
      ·rw [if_pos c11] at H
       have a8:decide (a1<(rd l0 aa))=true:=decide_eq_true c11;clear c11;by_cases c12:ab.length<17592186044416
       case neg=>rw [if_neg c12] at H;exact absurd H (by simp)
       rw [if_pos c12] at H;have a9:=am c12;clear c12;obtain ⟨ak,aw⟩:∃ y_:List Int,y_=(ab++[a1]):=⟨_,rfl⟩;replace H:(if ak.length<17592186044416 then (iP.l0 k1 l0 a1 (ak++[rd l0 aa]) true (wrap64 (aa+1))) else (none))=some r:=by first | (rw [aw];with_reducible exact H) | (have ae:=(Option.bind_some _ _).symm.trans H;rw [aw];with_reducible exact ae) | (have ae:=(Option.bind_some _ _).symm.trans H;with_reducible exact ae) | with_reducible exact H | (rw [aw];exact H) | exact H
       have ba:=am aw;clear aw;by_cases c13:ak.length<17592186044416
       case neg=>rw [if_neg c13] at H;exact absurd H (by simp)
       rw [if_pos c13] at H;have bb:=am c13;clear c13;obtain ⟨aZ,ax⟩:∃ y_:List Int,y_=(ak++[rd l0 aa]):=⟨_,rfl⟩;replace H:(iP.l0 k1 l0 a1 aZ true (wrap64 (aa+1)))=some r:=by first | (rw [ax];with_reducible exact H) | (have ae:=(Option.bind_some _ _).symm.trans H;rw [ax];with_reducible exact ae) | (have ae:=(Option.bind_some _ _).symm.trans H;with_reducible exact ae) | with_reducible exact H | (rw [ax];exact H) | exact H
       have bd:=am ax;clear ax;have H':=am H;clear H;have af:0≤(aa:Int):=of_decide_eq_true asm;have ag:aa<(l0.length:Int):=of_decide_eq_true asm;obtain ⟨ah,ao,ac⟩:=Kd.mK al.out aa af ag;cases ao;replace ac:=xc HB ac;replace af:=eq_true af;replace ag:=eq_true ag;have ap:0≤(aa:Int):=of_decide_eq_true asm;have aq:aa<(l0.length:Int):=of_decide_eq_true asm;obtain ⟨aI,aQ,aj⟩:=Kd.mK al.out aa ap aq;obtain rfl:ah=aI:=(by injection aQ);replace aj:=xc HB aj;replace ap:=eq_true ap;replace aq:=eq_true aq
       go_wp2_with (first | ((with_reducible refine kY (b:=.append) (xs:=#[.tmp 30,.tmp 32]) rfl ?_);at_builtin;refine Kd.oM (Kd.int .i64) (w0:=w) w.heap.size rfl (.tmp 30) (.tmp 32) 41 3 (.int .i64 0) 8 rfl Tryz.underlying41 info3 rfl (by decide) (by omega) u5 ab a1 [.int .i64 a1] (fun _=>True) (fun _=>False) rfl rfl ?aP (fun _ hk=>hk.elim) ?aF ?aO ?aB ?aS ?aL ?_;(case aP=>exact rfl);(case aB=>exact (bl HB.out));(case aF=>exact (fun _ _=>trivial));(case aO=>exact (kr ai.out));(case aS=>exact (iL (bl HB.out)));(case aL=>have:=a9.out;omega);intro bw bL ho hb hg hat;rw [← ba.out] at ho;replace HB:=am (hb);have aW:=am (ho);clear ai;clear ho hb hg hat;have aR:0≤(aa:Int):=of_decide_eq_true asm;have aT:aa<(l0.length:Int):=of_decide_eq_true asm;obtain ⟨be,bA,aG⟩:=Kd.mK al.out aa aR aT;obtain rfl:ah=be:=(by injection bA);replace aG:=xc HB aG;replace aR:=eq_true aR;replace aT:=eq_true aT) | ((with_reducible refine kY (b:=.append) (xs:=#[.tmp 34,.tmp 39]) rfl ?_);at_builtin;refine Kd.oM (Kd.int .i64) (w0:=w) w.heap.size rfl (.tmp 34) (.tmp 39) 41 3 (.int .i64 0) 8 rfl Tryz.underlying41 info3 rfl (by decide) (by omega) bw ak (rd l0 aa) [.int .i64 (rd l0 aa)] (fun _=>True) (fun _=>False) rfl rfl ?aP (fun _ hk=>hk.elim) ?aF ?aO ?aB ?aS ?aL ?_;(case aP=>exact rfl);(case aB=>exact (bl HB.out));(case aF=>exact (fun _ _=>trivial));(case aO=>exact (kr aW.out));(case aS=>exact (iL (bl HB.out)));(case aL=>have:=bb.out;omega);intro bG bM ho hb hg hat;rw [← bd.out] at ho;replace HB:=am (hb);have bf:=am (ho);clear aW;clear ho hb hg hat))
       go_roundg k1
       case measure=>have:=aA.out;omega
       case rel=>exact ⟨(aZ),(true),(wrap64 (aa+1)),sm,sm,H',⟨by have:=aA.out;omega⟩,⟨by (with_reducible repeat (first | apply Kd.jX | apply Kd.jY | apply Kd.jF));exact bf.out⟩,⟨bl HB.out⟩⟩
      ·rw [if_neg c11] at H
       have a8:decide (a1<(rd l0 aa))=false:=decide_eq_false c11;clear c11;by_cases c16:ab.length<17592186044416
       case neg=>rw [if_neg c16] at H;exact absurd H (by simp)
       rw [if_pos c16] at H;have bg:=am c16;clear c16;obtain ⟨a0,ay⟩:∃ y_:List Int,y_=(ab++[rd l0 aa]):=⟨_,rfl⟩;replace H:(iP.l0 k1 l0 a1 a0 false (wrap64 (aa+1)))=some r:=by first | (rw [ay];with_reducible exact H) | (have ae:=(Option.bind_some _ _).symm.trans H;rw [ay];with_reducible exact ae) | (have ae:=(Option.bind_some _ _).symm.trans H;with_reducible exact ae) | with_reducible exact H | (rw [ay];exact H) | exact H
       have bh:=am ay;clear ay;have H':=am H;clear H;have af:0≤(aa:Int):=of_decide_eq_true asm;have ag:aa<(l0.length:Int):=of_decide_eq_true asm;obtain ⟨ah,ao,ac⟩:=Kd.mK al.out aa af ag;cases ao;replace ac:=xc HB ac;replace af:=eq_true af;replace ag:=eq_true ag;have ap:0≤(aa:Int):=of_decide_eq_true asm;have aq:aa<(l0.length:Int):=of_decide_eq_true asm;obtain ⟨aI,aQ,aj⟩:=Kd.mK al.out aa ap aq;obtain rfl:ah=aI:=(by injection aQ);replace aj:=xc HB aj;replace ap:=eq_true ap;replace aq:=eq_true aq;have aU:0≤(aa:Int):=of_decide_eq_true asm;have aV:aa<(l0.length:Int):=of_decide_eq_true asm;obtain ⟨bi,bB,aH⟩:=Kd.mK al.out aa aU aV;obtain rfl:ah=bi:=(by injection bB);replace aH:=xc HB aH;replace aU:=eq_true aU;replace aV:=eq_true aV;go_wp2_with (first | ((with_reducible refine kY (b:=.append) (xs:=#[.tmp 34,.tmp 39]) rfl ?_);at_builtin;refine Kd.oM (Kd.int .i64) (w0:=w) w.heap.size rfl (.tmp 34) (.tmp 39) 41 3 (.int .i64 0) 8 rfl Tryz.underlying41 info3 rfl (by decide) (by omega) u5 ab (rd l0 aa) [.int .i64 (rd l0 aa)] (fun _=>True) (fun _=>False) rfl rfl ?aP (fun _ hk=>hk.elim) ?aF ?aO ?aB ?aS ?aL ?_;(case aP=>exact rfl);(case aB=>exact (bl HB.out));(case aF=>exact (fun _ _=>trivial));(case aO=>exact (kr ai.out));(case aS=>exact (iL (bl HB.out)));(case aL=>have:=bg.out;omega);intro bH bN ho hb hg hat;rw [← bh.out] at ho;replace HB:=am (hb);have bj:=am (ho);clear ai;clear ho hb hg hat));go_roundg k1
       case measure=>have:=aA.out;omega
       case rel=>exact ⟨(a0),(false),(wrap64 (aa+1)),sm,sm,H',⟨by have:=aA.out;omega⟩,⟨by (with_reducible repeat (first | apply Kd.jX | apply Kd.jY | apply Kd.jF));exact bj.out⟩,⟨bl HB.out⟩⟩
   ·rw [if_neg c3] at H
    have bo:=decide_eq_false c3;clear c3;by_cases c18:aC=true
    ·subst c18
     have H1:(some ab)=some r:=by rw [if_pos rfl] at H;exact H
     clear H;have H:=H1;clear H1;obtain rfl:=Option.some.inj H;go_wp2;go_ret;exact ⟨_,rt,by (with_reducible repeat (first | apply Kd.jX | apply Kd.jY | apply Kd.jF));exact ai.out,bl HB.out⟩
    ·replace c18:=Bool.eq_false_iff.mpr c18
     subst c18;have H1:(if ab.length<17592186044416 then (some (ab++[a1])) else (none))=some r:=by rw [if_neg (show ¬ (false=true) by decide)] at H;exact H
     clear H;have H:=H1;clear H1;by_cases c19:ab.length<17592186044416
     case neg=>rw [if_neg c19] at H;exact absurd H (by simp)
     rw [if_pos c19] at H;have bk:=am c19;clear c19;obtain ⟨bC,az⟩:∃ y_:List Int,y_=(ab++[a1]):=⟨_,rfl⟩;replace H:(some bC)=some r:=by first | (rw [az];with_reducible exact H) | (have ae:=(Option.bind_some _ _).symm.trans H;rw [az];with_reducible exact ae) | (have ae:=(Option.bind_some _ _).symm.trans H;with_reducible exact ae) | with_reducible exact H | (rw [az];exact H) | exact H
     have bm:=am az;clear az;obtain rfl:=Option.some.inj H;go_wp2_with (first | ((with_reducible refine kY (b:=.append) (xs:=#[.tmp 43,.tmp 45]) rfl ?_);at_builtin;refine Kd.oM (Kd.int .i64) (w0:=w) w.heap.size rfl (.tmp 43) (.tmp 45) 41 3 (.int .i64 0) 8 rfl Tryz.underlying41 info3 rfl (by decide) (by omega) u5 ab a1 [.int .i64 a1] (fun _=>True) (fun _=>False) rfl rfl ?aP (fun _ hk=>hk.elim) ?aF ?aO ?aB ?aS ?aL ?_;(case aP=>exact rfl);(case aB=>exact (bl HB.out));(case aF=>exact (fun _ _=>trivial));(case aO=>exact (kr ai.out));(case aS=>exact (iL (bl HB.out)));(case aL=>have:=bk.out;omega);intro bI bO ho hb hg hat;rw [← bm.out] at ho;replace HB:=am (hb);have bn:=am (ho);clear ai;clear ho hb hg hat));go_ret;exact ⟨_,rt,by (with_reducible repeat (first | apply Kd.jX | apply Kd.jY | apply Kd.jF));exact bn.out,bl HB.out⟩
end Go.Proofs.YtmbmalkpmanaaaaGreat.P
