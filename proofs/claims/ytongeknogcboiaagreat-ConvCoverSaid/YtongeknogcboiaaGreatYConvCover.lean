/- The law ConvCover: it holds at every input that its row reads. No condition of its own. -/
import Derived.Test.YtongeknogcboiaaGreatYL19
import Derived.Test.YtongeknogcboiaaGreatRows
import Derived.Test.YtongeknogcboiaaGreatYL16
import Derived.Test.YtongeknogcboiaaGreatYL17
import Derived.WalkKit
import Derived.ProofKit
import Derived.OpenShut
import Derived.ShutString
import Derived.ChangeOld
import Derived.Below
import Derived.SizedLaws
namespace Go.Proofs.YtongeknogcboiaaGreat.Q
set_option linter.unusedVariables false
set_option linter.unusedSimpArgs false
open Go.RowKit Go.Proofs.YtongeknogcboiaaGreatW.fK Go.Proofs.YtongeknogcboiaaGreatW.iE M R P
section
variable {p c:Int} {core:List (List Sp)} {odd:List Gn}
theorem aby {α:Type} (f:α→Int) (b:Int):∀ {l:List α},(∀ x∈l,f x≤b)→(l.map f).sum≤l.length*b
  | [],_=>by simp
  | x :: r,h=>by
    have:=aby f b (l:=r) (fun y hy=>h y (by simp [hy]));have:=h x (by simp);rw [List.map_cons,List.sum_cons,List.length_cons];rw [Int.natCast_add,Int.add_mul];omega
theorem xE {α:Type} (f:α→Int) (h0:∀ x,0≤f x):∀ {l:List α} {x:α},x∈l→f x≤(l.map f).sum
  | [],x,h=>by cases h
  | y :: r,x,h=>by
    have hs:0≤(r.map f).sum:=sw (fun z hz=>by obtain ⟨a,_,rfl⟩:=List.mem_map.1 hz;exact h0 a);rw [List.map_cons,List.sum_cons];rcases List.mem_cons.1 h with rfl | h
    · omega
    · have:=xE f h0 h
      have:=h0 y;omega
theorem aem (h:SF p c core odd):qb core odd≤9223372036854775807:=by
  have h1:=aby (fun l:List Sp=>(l.length:Int)) 2199023255553 (l:=core) (fun l hl=>by have:=SL.len (lo:=0) (h.hcore l hl);omega);have h2:=aby (fun g:Gn=>(g.f1.length:Int)) 2199023255553 (l:=odd) (fun g hg=>by have:=SL.len (lo:=0) (h.hodd g hg);omega);have:=h.hl;have:=h.hlo;unfold qb;omega
theorem aft (h:SF p c core odd) (i:Int):((fs c core odd i).length:Int)≤qb core odd:=by
  have n1:0≤(core.map fun l:List Sp=>(l.length:Int)).sum:=sw (fun z hz=>by obtain ⟨a,_,rfl⟩:=List.mem_map.1 hz;omega);have n2:0≤(odd.map fun g:Gn=>(g.f1.length:Int)).sum:=sw (fun z hz=>by obtain ⟨a,_,rfl⟩:=List.mem_map.1 hz;omega);unfold qb;unfold fs;cases ho:jJ odd i with
  | some l =>
    obtain ⟨g,hg,_,e⟩:=lq ho;have:=xE (fun g:Gn=>(g.f1.length:Int)) (fun _=>by omega) hg;simp only [e] at this;simp only;omega
  | none =>
    by_cases hc:c=0
    · simp only [iP,if_pos hc];simp;omega
    · have:=xE (fun l:List Sp=>(l.length:Int)) (fun _=>by omega) (h.lT i hc)
      simp only at this ⊢;omega
theorem abz (h:SF p c core odd) (i:Int):((gT p c core odd i).length:Int)≤qb core odd:=by
  have:=aft h i;unfold gT;rw [List.length_map];exact this
theorem abA (h:SF p c core odd) (i:Int):((thV p c core odd i).length:Int)≤max 0 (qb core odd):=by
  have:=abz h i;unfold thV;rcases lC h i with ⟨e,e1,e2⟩ | ⟨e,e1⟩
  · rw [e1];simp only;omega
  · rw [e1];simp;omega
theorem abB (h:FOK p c core odd) {i k x:Int} (ei:Ex p c core odd i) (ek:Ex p c core odd k) (h1:lF (gT p c core odd i) x=true) (h2:lF (gT p c core odd k) x=true):i=k:=by
  obtain ⟨a1,a2⟩:=qm h.s ei h1;obtain ⟨b1,b2⟩:=qm h.s ek h2;rcases Int.lt_trichotomy i k with g | g | g
  · have:=h.ord i k g ei.r ek.r ei.n ek.n;omega
  · exact g
  · have:=h.ord k i g ek.r ei.r ek.n ei.n;omega
theorem uF {lo hi:Int} {l:List Sp} (h:SL lo hi l) (hn:l≠[]):lF l (kV l)=true:=by
  cases l with
  | nil=>exact absurd rfl hn
  | cons s r=>rw [lW];have:=h.2.1;simp [kV,this]
structure CvS (pa ca:Int) (ka:List (List Sp)) (oa:List Gn) (p c:Int) (core:List (List Sp)) (odd:List Gn) (i:Int) (r:Int × Bool):Prop where
  y:r.2=true→Ex pa ca ka oa i∧Ex p c core odd r.1∧∀ x,lF (gT pa ca ka oa i) x=true→lF (gT p c core odd r.1) x=true
  n:r.2=false→r.1=0∧(Ex pa ca ka oa i→∀ m,Ex p c core odd m→¬ ∀ x,lF (gT pa ca ka oa i) x=true→lF (gT p c core odd m) x=true)
end
variable [Inhabited WT]
variable {p c pa ca:Int} {core ka:List (List Sp)} {odd oa:List Gn}
theorem agr (h:FOK p c core odd) (t:Int):∃ r,Ev (fun k=>kF.f k p c core odd t) r∧AtS p c core odd t r:=by
  obtain ⟨a,a1,a2⟩:=xB h t;unfold kF.f;cases ha:a.2 with
  | false =>
    refine ⟨(0,false),Ev.bind a1 (Ev.yes (by rw [ha];rfl) (Ev.now _)),⟨(fun e=>by cases e),fun _=>⟨rfl,fun m e => ?_⟩⟩⟩;refine Bool.eq_false_iff.2 fun hm => ?_;exact (a2.n ha).2 m e (qm h.s e hm).2
  | true =>
    obtain ⟨q1,q2,q3⟩:=a2.y ha;have g:=ku h.s a.1;rw [h.s.lu q1] at g;have hs:=h.s.pG q1;have hv:=afo (gT p c core odd a.1) t hs (by have:=hs.aa3;omega);cases hb:lF (gT p c core odd a.1) t with
    | true =>
      rw [hb] at hv;exact ⟨(a.1,true),Ev.bind a1 (Ev.no (by simp [ha]) (Ev.bind g (Ev.bind hv (Ev.no (by simp) (Ev.now _))))),⟨fun _=>⟨q1,hb⟩,(fun e=>by cases e)⟩⟩
    | false =>
      rw [hb] at hv;refine ⟨(0,false),Ev.bind a1 (Ev.no (by simp [ha]) (Ev.bind g (Ev.bind hv (Ev.yes rfl (Ev.now _))))),⟨(fun e=>by cases e),fun _=>⟨rfl,fun m e => ?_⟩⟩⟩;refine Bool.eq_false_iff.2 fun hm => ?_;obtain ⟨l1,l2⟩:=qm h.s e hm;have:=aec h a2 e l1 l2;rw [this] at hb;rw [hb] at hm;cases hm
theorem acR (ha:SF pa ca ka oa) (h:FOK p c core odd) (i:Int) (hl:(thV pa ca ka oa i).length≤100000) (hb:∀ m,(thV p c core odd m).length≤100000) :
    ∃ r,Ev (fun k=>iY.f k pa ca ka oa p c core odd i) r∧CvS pa ca ka oa p c core odd i r:=by
  simp only [iY.f,decide_eq_true_eq];rcases lC ha i with ⟨e,e1,e2⟩ | ⟨e,e1⟩
  · have ev:thV pa ca ka oa i=gT pa ca ka oa i:=by unfold thV;rw [e1]
    have hne:¬ ((thV pa ca ka oa i).length:Int)=0:=fun q=>e2 (ev ▸ List.eq_nil_of_length_eq_zero (by omega));have hpos:(0:Int)<((thV pa ca ka oa i).length:Int):=by omega
    have hS:=ha.pG e;have aa:(gS (thV pa ca ka oa i) 0).f0=kV (gT pa ca ka oa i):=by rw [ev];exact (abj _ e2).2
    obtain ⟨a,a1,a2⟩:=agr h (kV (gT pa ca ka oa i));rw [← aa] at a1;cases hx:a.2 with
    | false =>
      refine ⟨(0,false),Ev.bind (lG ha i) (Ev.no hne (Ev.yes hpos (Ev.bind a1 (Ev.yes (by simp [hx]) (Ev.now _))))),(fun q=>by cases q),fun _=>⟨rfl,fun _ m hm q => ?_⟩⟩;have:=q _ (uF hS e2);rw [(a2.n hx).2 m hm] at this;cases this
    | true =>
      obtain ⟨q1,q2⟩:=a2.y hx;have ek:thV p c core odd a.1=gT p c core odd a.1:=by unfold thV;rw [h.s.lu q1]
      have w:=oP (thV pa ca ka oa i) (thV p c core odd a.1) (by have:=hb a.1;omega);have wi:=uE (sG ha i) (sG h.s a.1);rw [ev,ek] at wi;cases hw:inS (thV pa ca ka oa i) (thV p c core odd a.1) with
      | true =>
        refine ⟨(a.1,true),Ev.bind (lG ha i) (Ev.no hne (Ev.yes hpos (Ev.bind a1 (Ev.no (by simp [hx]) (Ev.bind (lG h.s a.1) (Ev.bind w (Ev.no ?_ (Ev.now _)))))))),fun _=>⟨e,q1,?_⟩,fun q=>by cases q⟩
        · unfold inS at hw;simp [hw]
        · rw [ev,ek] at hw;exact wi.1 hw
      | false =>
        refine ⟨(0,false),Ev.bind (lG ha i) (Ev.no hne (Ev.yes hpos (Ev.bind a1 (Ev.no (by simp [hx]) (Ev.bind (lG h.s a.1) (Ev.bind w (Ev.yes ?_ (Ev.now _)))))))),(fun q=>by cases q),fun _=>⟨rfl,fun _ m hm q => ?_⟩⟩
        · unfold inS at hw;simp [hw]
        · have:m=a.1:=abB h hm q1 (q _ (uF hS e2)) q2
          subst this;rw [ev,ek,wi.2 q] at hw;cases hw
  · have ev:thV pa ca ka oa i=[]:=e1
    refine ⟨(0,false),Ev.bind (lG ha i) (Ev.yes (by rw [ev];rfl) (Ev.now _)),(fun q=>by cases q),fun _=>⟨rfl,fun q=>(e q).elim⟩⟩
theorem sH (m:MF core odd):∃ b,Ev (fun k=>iH.f k p c core odd) b∧(b=true→FOK p c core odd∧GR p c core odd∧core.length≤12∧odd.length≤8∧qb core odd≤60):=by
  have wrong:∀ {P:Prop},false=true→P:=fun e=>by cases e
  unfold iH.f;by_cases hl:(core.length:Int)≤12
  case neg=>exact ⟨false,Ev.bind (a:=false) (Ev.congr (f:=fun _=>some false) (fun k=>by simp [iG.f,hl]) (Ev.now _)) (Ev.now _),wrong⟩
  by_cases hlo:(odd.length:Int)≤8
  case neg=>exact ⟨false,Ev.bind (a:=false) (Ev.congr (f:=fun _=>some false) (fun k=>by simp [iG.f,hl,hlo]) (Ev.now _)) (Ev.now _),wrong⟩
  obtain ⟨n,⟨n1,n2⟩,e,e1,e2,e3,e4⟩:=abl (p:=p) (c:=c) m (by omega) (by omega);have hs:Ev (fun k=>iG.f k p c core odd) (decide (n≤60)):=by
    simp only [iG.f,decide_eq_true_eq,hl,hlo,if_true];exact Ev.bind n1 (Ev.now _)
  by_cases hn:n≤60
  · refine ⟨decide (e=0),Ev.bind hs (Ev.yes (by simpa using hn) (Ev.bind e1 (Ev.now _))),fun he => ?_⟩
    have:=e4.1 (by simpa using he);exact ⟨this.2.fok,this.2,by omega,by omega,by have:=n2 (aem this.2.s);omega⟩
  · exact ⟨false,Ev.bind hs (Ev.no (by simpa using hn) (Ev.now _)),wrong⟩
end Go.Proofs.YtongeknogcboiaaGreat.Q
namespace Go.Proofs.YtongeknogcboiaaGreat.U
set_option linter.unusedVariables false
set_option linter.unusedSimpArgs false
open Go.RowKit Go.Proofs.YtongeknogcboiaaGreatW.fK Go.Proofs.YtongeknogcboiaaGreatW.iE M R P Q
theorem abC [Inhabited WT] (pa ca:Int) (ka:List (List Sp)) (oa:List Gn) (fa:aaX pa ca ka oa) (p c:Int) (core:List (List Sp)) (odd:List Gn) (ff:aaX p c core odd) (i:Int) (hi:fits i):∃ k,fG.f k pa ca ka oa p c core odd i=some true:=by
  refine Ev.rounds ?_;unfold fG.f;obtain ⟨a,a1,a2⟩:=sH (p:=pa) (c:=ca) fa.mf;refine Ev.bind a1 ?_;cases a with
  | false=>exact Ev.yes rfl (Ev.bind nL (Ev.now _))
  | true =>
  refine Ev.no (by simp) ?_;obtain ⟨b,b1,b2⟩:=sH (p:=p) (c:=c) ff.mf;refine Ev.bind b1 ?_;cases b with
  | false=>exact Ev.yes rfl (Ev.bind nL (Ev.now _))
  | true =>
  refine Ev.no (by simp) ?_;obtain ⟨ha,_,_,_,za⟩:=a2 rfl;obtain ⟨h,_,_,_,zb⟩:=b2 rfl;have la:∀ m,(thV pa ca ka oa m).length≤100000:=fun m=>by have:=abA ha.s m;omega
  have lb:∀ m,(thV p c core odd m).length≤100000:=fun m=>by have:=abA h.s m;omega
  have ga:∀ m,(gT pa ca ka oa m).length≤100000:=fun m=>by have:=abz ha.s m;omega
  have gb:∀ m,(gT p c core odd m).length≤100000:=fun m=>by have:=abz h.s m;omega
  obtain ⟨cv,ac,af,ah⟩:=acR ha.s h i (la i) lb;obtain ⟨me,ai,ab⟩:=acQ ha.s h i (la i) gb;have gi:=ku ha.s i;simp only [fG.l0,decide_eq_true_eq];refine Ev.bind gi (Ev.bind ac (Ev.bind ai ?_));cases hc:cv.2 with
  | false =>
    obtain ⟨z1,z2⟩:=ah hc;refine Ev.yes rfl (Ev.no (by simp [z1]) ?_);have loop:∀ (d n:Nat),2 - n=d→n≤2→∀ (Y:Nat→Option Bool),Ev Y true→Ev (fun k=>fG.l1 (some false) (Y k) (lJ pa ca ka oa i).1 (lJ pa ca ka oa i).2 me.2.2 [me.1,me.2.1] p c core odd k (n:Int)) true:=by
      intro d;induction d with
      | zero =>
        intro n hd hn Y hY;have c1:¬ (n:Int)<2:=by omega
        refine Ev.step (fun k=>rfl) ?_;simp only [fG.l1,fG.l1T,decide_eq_true_eq,c1,if_false];exact Ev.shift hY
      | succ d ih =>
        intro n hd hn Y hY;have c1:(n:Int)<2:=by omega
        have c2:(0:Int)≤(n:Int):=by omega
        have c3:(n:Int)<(([me.1,me.2.1]:List Int).length:Int):=by simp;omega
        have hw:wq ((n:Int)+1)=((n+1:Nat):Int):=by rw [jh (by omega) (by omega)];simp
        have nx:=ih (n+1) (by omega) (by omega) (fun k=>Y (k+1)) (Ev.shift hY);refine Ev.step (fun k=>rfl) ?_;simp only [fG.l1,fG.l1T,decide_eq_true_eq,c1,c2,c3,if_true,hw];generalize gI [me.1,me.2.1] (n:Int)=x;refine Ev.bind (ku h.s x) ?_;by_cases q1:me.2.2=true
        case neg=>exact Ev.no q1 nx
        refine Ev.yes q1 ?_;by_cases q2:(lJ pa ca ka oa i).2=0
        case neg=>exact Ev.no q2 nx
        refine Ev.yes q2 ?_;by_cases q3:((lJ pa ca ka oa i).1.length:Int)>0
        case neg=>exact Ev.no q3 nx
        refine Ev.yes q3 ?_;by_cases q4:(lJ p c core odd x).2=0
        case neg=>exact Ev.no q4 nx
        refine Ev.yes q4 ?_;have w:=oP (thV pa ca ka oa i) (thV p c core odd x) (by have:=la i;have:=lb x;omega);refine Ev.bind w (Ev.no ?_ nx);have wi:=uE (sG ha.s i) (sG h.s x);intro hin;have hin':inS (thV pa ca ka oa i) (thV p c core odd x)=true:=hin;rcases lC ha.s i with ⟨e,e1,e2⟩ | ⟨e,e1⟩
        · have ev:thV pa ca ka oa i=gT pa ca ka oa i:=by unfold thV;rw [e1]
          rcases lC h.s x with ⟨f,f1,f2⟩ | ⟨f,f1⟩
          · have fv:thV p c core odd x=gT p c core odd x:=by unfold thV;rw [f1]
            rw [ev,fv] at wi hin';exact z2 e x f (wi.1 hin')
          · have fv:thV p c core odd x=[]:=f1
            rw [ev,fv] at wi hin';have:=wi.1 hin' _ (uF (ha.s.pG e) e2);cases this
        · rw [e1] at q3;simp at q3
    exact loop 2 0 rfl (by omega) _ (Ev.bind nL (Ev.now _))
  | true =>
    refine Ev.no (by simp) ?_;obtain ⟨e,f,sub⟩:=af hc;obtain ⟨wi,w1,w2⟩:=zP h.s ha cv.1 (lb cv.1) ga;refine Ev.bind (ku h.s cv.1) (Ev.bind w1 ?_);have ev:thV pa ca ka oa i=gT pa ca ka oa i:=by unfold thV;rw [ha.s.lu e]
    have fv:thV p c core odd cv.1=gT p c core odd cv.1:=by unfold thV;rw [h.s.lu f]
    rw [ha.s.lu e,h.s.lu f];have hne:=(mO (p:=pa) e.n).1;have aa:=ha.s.pG e;have hSb:=h.s.pG f;have hx:=uF aa hne;rw [ev] at ab;have mk:meS (gT p c core odd cv.1) (gT pa ca ka oa i)=true:=(xD hSb aa).2 ⟨_,sub _ hx,hx⟩;have m1:me.2.2=true:=by
      cases q:me.2.2 with
      | true=>rfl
      | false=>have:=(ab.n q).2.2 cv.1 f;simp only [mk] at this;cases this
    have only:∀ m,Ex p c core odd m→meS (gT p c core odd m) (gT pa ca ka oa i)=true→m=cv.1:=fun m hm q=>by
      obtain ⟨x,x1,x2⟩:=(xD (h.s.pG hm) aa).1 q;exact abB h hm f x1 (sub x x2)
    obtain ⟨y1,y2,y3⟩:=ab.y m1;have l1:=only _ y1.1 y1.2;have l2:=only _ y2.1 y2.2;rw [fv] at w2;have ik:inS (gT pa ca ka oa i) (gT p c core odd cv.1)=true:=(uE aa hSb).2 sub;have n1:wi.2.2=true:=by
      cases q:wi.2.2 with
      | true=>rfl
      | false=>have:=(w2.n q).2.2 i e;simp only [ik] at this;cases this
    have bd:=(w2.y n1).2.2 i e ik;have w:=oP (gT pa ca ka oa i) (gT p c core odd cv.1) (by have:=ga i;have:=gb cv.1;omega);have hlen:=List.length_pos_iff.2 hne;exact Ev.yes rfl (Ev.yes rfl (Ev.yes (by simp only;omega) (Ev.bind w (Ev.yes ik (Ev.yes m1 (Ev.yes l1 (Ev.yes l2 (Ev.yes n1 (Ev.yes bd.1 (Ev.yes bd.2 (Ev.bind nL (Ev.now _))))))))))))
end Go.Proofs.YtongeknogcboiaaGreat.U
namespace Go.Proofs.YtongeknogcboiaaGreat.wo
open Go.ChangeShapes Go.WideShapes Go.ChangeAt Go.RowKit
open Go.ChangeMaps (open_string shut_string)
set_option linter.unusedVariables false
theorem own:ownKnob Tryz.prog.godebug=none:=by kernel_rfl
theorem laidOut:laidOutB Tryz.prog=true:=by kernel_rfl
set_option maxRecDepth 100000 in
theorem lifted (os:Os) (started:os.Started) (H:Type) (enc:TypeId × Value→H) :
    ReturnsInHanded {} Tryz.checked os 3 .any (Rows.convCoverSpec.pre6 enc Tryz.prog Tryz.f3 Rows.convCoverRow.domain false) (Rows.convCoverSpec.post enc Tryz.prog Tryz.f3 false true false false):=by
  refine returnsInHanded_of_change_sized (C:=Tryz.checked) own started (by kernel_rfl) Tryz.func3
    (ChangeSpec.witness6 (enc:=enc) (C:=Tryz.checked) false ⟨#[],#[.agg #[.int .i64 0,.int .i64 0,.slice none 0 0,.slice none 0 0],.agg #[.int .i64 0,.int .i64 0,.slice none 0 0,.slice none 0 0],.int .i64 0],[]⟩ 8 (by kernel_rfl) (by kernel_rfl) (by kernel_rfl) (by kernel_rfl)) ?_
  intro W base args ds gs before hval0 hW hcnd hsz0 _;have hval:∀ (j:Nat) t v,Tryz.f3.params[j]? = some t→args[j]? = some v→Value.okWide Tryz.prog W .any base t v:=hval0;have hW':=hW;obtain ⟨p,q,am,hV,rfl,hfz,hnd⟩:=hW;have hA:DataW.TrodAll enc Tryz.prog W 0 (fun _=>true) true Tryz.f3.params.toList args.toList ds p:=am;rw [Tryz.params3] at hA hval;obtain ⟨v0,aE,d0,ds0,p0,q0,hargs,rfl,rfl,h0,r0⟩:=trodAll_cons hA;obtain ⟨v1,vs1,d1,ds1,p1,q1,rfl,rfl,rfl,h1,r1⟩:=trodAll_cons r0;obtain ⟨v2,vs2,d2,aF,p2,q2,rfl,rfl,rfl,h2,r2⟩:=trodAll_cons r1;obtain ⟨rfl,rfl,rfl⟩:=trodAll_nil r2;obtain rfl:args=#[v0,v1,v2]:=by cases args;simp_all
  obtain ⟨rfl,rfl⟩:=trodVars_none hV;have k0:=h0;have ap:∀ x∈p0,x.block<W.heap.size:=by obtain ⟨m,hm⟩:=k0;exact DataW.trod_lt m _ _ _ hm
  obtain ⟨aa,ab,aG,aH,ac,aI,aJ,af,rfl,aq,au,aw,ax,ay⟩:=P.vR (hval 0 25 v0 rfl rfl) h0;have k1:=h1;have az:∀ x∈p1,x.block<W.heap.size:=by obtain ⟨m,hm⟩:=k1;exact DataW.trod_lt m _ _ _ hm
  obtain ⟨ah,ai,aK,aL,aj,aM,aN,ak,rfl,aA,fx1,aB,aC,aD⟩:=P.vR (hval 1 25 v1 rfl rfl) h1;obtain ⟨a2,rfl,rfl,rfl,w2⟩:=open_int Tryz.underlying3 (hval 2 3 v2 rfl rfl) h2;clear am hval0 hsz0;obtain ⟨kk,hP⟩:=U.abC aa ab ac af ay ah ai aj ak aD a2 w2;refine (M.aaU (R.fG.ok kk) (W:=W) (a:=((⟨aa,ab,ac,af⟩:P.S25),(⟨ah,ai,aj,ak⟩:P.S25),a2,())) (vs:=[.agg #[.int .i64 aa,.int .i64 ab,.slice _ ac.length _,.slice _ af.length _],.agg #[.int .i64 ah,.int .i64 ai,.slice _ aj.length _,.slice _ ak.length _],.int .i64 a2]) ⟨⟨_,M.fm0 _ _ aq au aw ax,rfl⟩,⟨⟨_,M.fm0 _ _ aA fx1 aB aC,rfl⟩,⟨⟨_,rfl,rfl⟩,trivial⟩⟩⟩ hP).mono fun e W' ⟨he,ao⟩ => ?_;have al:=ao;subst he;exact ⟨_,rfl,_,_,_,[],_,[],hW',trodAll_mk1 (shut_bool Tryz.underlying4 _),(trodAll_cons_mk (Below.trod laidOut (by kernel_rfl) (of_decide_eq_true (by kernel_rfl)) k0 al ap) (trodAll_cons_mk (Below.trod laidOut (by kernel_rfl) (of_decide_eq_true (by kernel_rfl)) k1 al az) (trodAll_cons_mk (shut_int Tryz.underlying3 w2) trodAll_mk0))),rfl,al.frame _,fun h=>by cases h⟩
theorem over:Rows.convCoverRow.holds Tryz.pinned (OpenSpec.ofChange Rows.convCoverSpec) :=
  OpenClaim.holds_of_wide 3 Tryz.f3 rfl rfl rfl rfl rfl rfl rfl ⟨rfl,rfl,rfl,rfl,rfl⟩ rfl rfl rfl rfl rfl (by kernel_rfl) Tryz.func3 (by kernel_rfl)
    (of_decide_eq_true (by kernel_rfl)) (by unfold Func.isWrapper;first | (rw [if_pos (by decide +kernel)];kernel_rfl) | (rw [if_neg (by decide +kernel)];exact ⟨rfl,rfl⟩))
    (fun os started H enc _=>lifted os started H enc)
theorem proved:Rows.ConvCoverSaid:=over
#print axioms proved
end Go.Proofs.YtongeknogcboiaaGreat.wo
namespace Go.Proofs.YtongeknogcboiaaGreat
theorem convCover_holds:Rows.ConvCoverSaid:=wo.proved
end Go.Proofs.YtongeknogcboiaaGreat
