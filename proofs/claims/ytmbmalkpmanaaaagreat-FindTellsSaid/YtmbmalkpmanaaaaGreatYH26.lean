/- Lemmas for laws of chapter 7: what the functions that they reach compute. No condition of its own. -/
import Derived.Test.YtmbmalkpmanaaaaGreatYH9
import Derived.Test.YtmbmalkpmanaaaaGreatYH8
import Derived.Test.YtmbmalkpmanaaaaGreatYH10
import Derived.Test.YtmbmalkpmanaaaaGreatYH25
import Derived.Test.YtmbmalkpmanaaaaGreatYH4
import Derived.Test.YtmbmalkpmanaaaaGreatYH11
import Derived.Test.YtmbmalkpmanaaaaGreatYH12
import Derived.Test.YtmbmalkpmanaaaaGreatYH2
import Derived.Test.YtmbmalkpmanaaaaGreatYH13
import Derived.Test.YtmbmalkpmanaaaaGreatYH23
import Derived.Deep.Slices
import Derived.Test.YtmbmalkpmanaaaaGreatYH24
import Derived.Maps.OwnSet
import Derived.Test.YtmbmalkpmanaaaaGreatYH14
import Derived.Test.YtmbmalkpmanaaaaGreatYH16
import Derived.Test.YtmbmalkpmanaaaaGreatYH18
namespace Go.Proofs.YtmbmalkpmanaaaaGreat.P
set_option linter.unusedVariables false
set_option linter.unusedSimpArgs false
open Go.RowKit Go.Proofs.YtmbmalkpmanaaaaGreatW.iD Go.Proofs.YtmbmalkpmanaaaaGreatW.jw
variable {p c:Int} {core:List (List Sp)} {odd:List Gn}
def dnI (T p c:Int) (l:List Sp) (j:Int):Int:=(T - oq l) / p*c+j
theorem acZ (h:SF p c core odd) (T:Int) {m:Int} (hm:jZ c core m≠[]):gLo p c core [] m≤T↔m≤dnI T p c (jZ c core m) (m % c):=by
  obtain ⟨hc,hp,_⟩:=rz h hm;have e:=Int.mul_ediv_add_emod m c;have e1:gLo p c core [] m=oq (jZ c core m)+m / c*p:=rfl;rw [e1];unfold dnI;generalize oq (jZ c core m)=L;generalize m / c=q at *;generalize m % c=r at *;subst e;have k1:q≤(T - L) / p↔q*p≤T - L:=Int.le_ediv_iff_mul_le hp;generalize (T - L) / p=z at *;have k2:q*c≤z*c↔q≤z:=by
    constructor
    · intro g;exact Int.le_of_mul_le_mul_right g hc
    · intro g;exact Int.mul_le_mul_of_nonneg_right g (by omega)
  have k4:c*q=q*c:=Int.mul_comm _ _;rw [k4];constructor
  · intro g
    have:=k1.2 (by omega);have:=k2.2 (by omega);omega
  · intro g
    have:=k2.1 (by omega);have:=k1.1 (by omega);omega
theorem abz (h:SF p c core odd) (T:Int) (hT : -1099511627777≤T∧T≤1099511627777) {j:Nat} (hj:j<core.length) (hn:core[j]≠[]) :
    -2199023255554≤(T - oq core[j]) / p∧(T - oq core[j]) / p≤2199023255554 ∧ -13194139533330000≤(T - oq core[j]) / p*c∧(T - oq core[j]) / p*c≤13194139533330000:=by
  have h0:=h.hc;have hl:=h.hl;have hp:p≠0:=fun e=>by have:=h.hz.2 e;omega
  have hp0:=h.hp0;have:=(h.hcore _ (List.getElem_mem hj)).ends hn;obtain ⟨a,b⟩:=abv (T - oq core[j]) p 2199023255554 (by omega) (by omega) (by omega) (by omega);generalize (T - oq core[j]) / p=z at *;obtain ⟨a1,b1⟩:=abw z c 2199023255554 6000 (by omega) (by omega) (by omega) (by omega) (by omega);exact ⟨by omega,by omega,by omega,by omega⟩
theorem aeC (b x T p:Int) (hT : -1099511627777≤T∧T≤1099511627777) (hb : -1099511627776≤b∧b≤1099511627776) (hp:0<p∧p≤1099511627776):Ev (fun k=>lD.f k b x T p) ((T - b) / p):=by
  unfold lD.f;rw [jl (n:=T - b) (by omega) (by omega)];exact Ev.bind (wO (T - b) p (by omega) (by omega)) (Ev.now _)
structure PlD (p c:Int) (core:List (List Sp)) (T:Int) (r:Int × Bool):Prop where
  y:r.2=true→jZ c core r.1≠[]∧gLo p c core [] r.1≤T∧∀ m,jZ c core m≠[]→gLo p c core [] m≤T→m≤r.1
  n:r.2=false→∀ m,jZ c core m=[]
  lo : -4611686018427387904≤r.1
  hi:r.1≤4611686018427387904
theorem yU (h:SF p c core odd) (T:Int) (hT : -1099511627777≤T∧T≤1099511627777):∃ r,Ev (fun k=>iN.f k p c core odd T) r∧PlD p c core T r:=by
  have hc:=h.hc;have hl:=h.hl;have loop:∀ (d n:Nat) (a:Int) (ok:Bool),core.length - n=d→n≤core.length →
      (ok=true→∃ j,∃ hj:j<core.length,core[j]≠[]∧a=dnI T p c core[j] j)→(ok=true→∀ j (hj:j<core.length),j<n→core[j]≠[]→dnI T p c core[j] j≤a)→(ok=false→a=0∧∀ j (hj:j<core.length),j<n→core[j]=[]) →
      ∃ r,Ev (fun k=>iN.l0 k T a ok core (core.length:Int) (n:Int) p c core odd (-1)) r∧PlD p c core T r:=by
    intro d;induction d with
    | zero =>
      intro n a ok hd hn i1 i2 i3;refine ⟨(a,ok),Ev.step (f:=fun _=>some (a,ok)) (fun k=>by rw [iN.l0,if_neg (by omega)]) (Ev.now _),?_⟩;cases ok with
      | true =>
        obtain ⟨j,hj,hne,rfl⟩:=i1 rfl;obtain ⟨e1,e2⟩:=xW h (((T - oq core[j]) / p)) j hj;have hne':jZ c core (dnI T p c core[j] j)≠[]:=by unfold dnI;rw [e1];exact hne
        obtain ⟨b1,b2,b3,b4⟩:=abz h T hT hj hne;have e3:dnI T p c core[j] j % c=j:=(adG _ c j (by omega) (by omega)).2;have e4:jZ c core (dnI T p c core[j] j)=core[j]:=e1;refine ⟨fun _=>⟨hne',(acZ h T hne').2 ?_,fun m hm ab => ?_⟩,(fun e=>by cases e),(by simp only [dnI];omega),(by simp only [dnI];omega)⟩
        · simp only [e3,e4];exact Int.le_refl _
        · obtain ⟨_,_,i,hi,f1,f2⟩:=rz h hm
          have g1:=(acZ h T hm).1 ab;rw [f1,f2] at g1;have:=i2 rfl i hi (by omega) (by rw [← f2];exact hm);simp only;omega
      | false =>
        obtain ⟨rfl,hz⟩:=i3 rfl;refine ⟨(fun e=>by cases e),(fun _ m=>Classical.byContradiction fun hm => ?_),by simp,by simp⟩;obtain ⟨_,_,i,hi,f1,f2⟩:=rz h hm;exact hm (by rw [f2];exact hz i hi (by omega))
    | succ d ih =>
      intro n a ok hd hn i1 i2 i3;have hlt:n<core.length:=by omega
      have hw:wrap64 ((n:Int)+1)=((n+1:Nat):Int):=by rw [jl (by omega) (by omega)];simp
      have aa:=h.hcore _ (List.getElem_mem hlt);have hlen:core[n].length≤4611686018427387904:=by have:=aa.yP;omega
      by_cases hz:core[n]=[]
      · obtain ⟨r,r1,r2⟩:=ih (n+1) a ok (by omega) (by omega) i1 (fun e j hj hjn hne=>by
          rcases Nat.lt_or_ge j n with g | g
          · exact i2 e j hj g hne
          · have:j=n:=by omega
            subst this;exact absurd hz hne) (fun e=>⟨(i3 e).1,fun j hj hjn=>by
          rcases Nat.lt_or_ge j n with g | g
          · exact (i3 e).2 j hj g
          · have:j=n:=by omega
            subst this;exact hz⟩)
        refine ⟨r,Ev.step (fun k => ?_) r1,r2⟩;rw [iN.l0,if_pos (by omega),if_pos (by omega),if_pos (by omega),rdL core n hlt,oQ _ hlen,mQ,if_pos hz,Option.bind_some,if_neg (by simp),hw]
      · obtain ⟨b1,b2,b3,b4⟩:=abz h T hT hlt hz
        have ae:=aa.ends hz;have hp:p≠0:=fun e=>by have:=h.hz.2 e;omega
        have hp0:=h.hp0;have hp1:=h.hp1;have ac:=aeC (oq core[n]) (oh core[n]) T p hT (by omega) (by omega);have eu:(T - oq core[n]) / p*c+n=dnI T p c core[n] n:=rfl;generalize hz1:(T - oq core[n]) / p=z at *;have w1:wrap64 (z*c)=z*c:=jl (by omega) (by omega);have w2:wrap64 (z*c+n)=dnI T p c core[n] n:=by rw [← eu];exact jl (by omega) (by omega)
        have hub : -13194139533336000≤dnI T p c core[n] n∧dnI T p c core[n] n≤13194139533336000:=by rw [← eu];omega
        have take:(ok=true→a≤dnI T p c core[n] n)→∃ r,Ev (fun k=>iN.l0 k T (dnI T p c core[n] n) true core (core.length:Int) ((n+1:Nat):Int) p c core odd (-1)) r∧PlD p c core T r:=fun hle=>by
          refine ih (n+1) _ true (by omega) (by omega) (fun _=>⟨n,hlt,hz,rfl⟩) (fun _ j hj hjn hne => ?_) (fun e=>by cases e);rcases Nat.lt_or_ge j n with g | g
          · cases ok with
            | true=>have:=i2 rfl j hj g hne;have:=hle rfl;omega
            | false=>exact absurd ((i3 rfl).2 j hj g) hne
          · have:j=n:=by omega
            subst this;exact Int.le_refl _
        have start:∀ {r:Int × Bool},Ev (fun k=>if ok=true then (if (wrap64 ((wrap64 ((wrap64 ((wrap64 (z*c))+(n:Int))) - a))*(-1)))<0 then (iN.l0 k T (wrap64 ((wrap64 (z*c))+(n:Int))) true core (core.length:Int) (wrap64 ((n:Int)+1)) p c core odd (-1)) else (iN.l0 k T a ok core (core.length:Int) (wrap64 ((n:Int)+1)) p c core odd (-1))) else (iN.l0 k T (wrap64 ((wrap64 (z*c))+(n:Int))) true core (core.length:Int) (wrap64 ((n:Int)+1)) p c core odd (-1))) r→Ev (fun k=>iN.l0 k T a ok core (core.length:Int) (n:Int) p c core odd (-1)) r:=fun he=>by
          refine Ev.step (fun k => ?_) (Ev.bind (f:=fun k t=>if ok=true then (if (wrap64 ((wrap64 ((wrap64 ((wrap64 (t*c))+(n:Int))) - a))*(-1)))<0 then (iN.l0 k T (wrap64 ((wrap64 (t*c))+(n:Int))) true core (core.length:Int) (wrap64 ((n:Int)+1)) p c core odd (-1)) else (iN.l0 k T a ok core (core.length:Int) (wrap64 ((n:Int)+1)) p c core odd (-1))) else (iN.l0 k T (wrap64 ((wrap64 (t*c))+(n:Int))) true core (core.length:Int) (wrap64 ((n:Int)+1)) p c core odd (-1))) ac he);rw [iN.l0,if_pos (by omega),if_pos (by omega),if_pos (by omega),rdL core n hlt,oQ _ hlen,mQ,if_neg hz,Option.bind_some,if_pos rfl]
        rw [w1,w2,hw] at start;by_cases hok:ok=true
        · obtain ⟨j,hj,hne,ea⟩:=i1 hok
          have hab : -13194139533336000≤a∧a≤13194139533336000:=by
            obtain ⟨c1,c2,c3,c4⟩:=abz h T hT hj hne;rw [ea];unfold dnI;omega
          have w3:wrap64 (wrap64 (dnI T p c core[n] n - a)*(-1))=a - dnI T p c core[n] n:=by rw [jl (n:=dnI T p c core[n] n - a) (by omega) (by omega),jl (by omega) (by omega)];omega
          by_cases hlt2:a - dnI T p c core[n] n<0
          · obtain ⟨r,r1,r2⟩:=take (fun _=>by omega)
            exact ⟨r,start (Ev.congr (fun k=>by rw [if_pos hok,w3,if_pos hlt2]) r1),r2⟩
          · obtain ⟨r,r1,r2⟩:=ih (n+1) a ok (by omega) (by omega) i1 (fun e j hj hjn hne=>by
              rcases Nat.lt_or_ge j n with g | g
              · exact i2 e j hj g hne
              · have:j=n:=by omega
                subst this;omega) (fun e=>by rw [hok] at e;cases e)
            exact ⟨r,start (Ev.congr (fun k=>by rw [if_pos hok,w3,if_neg hlt2]) r1),r2⟩
        · obtain ⟨r,r1,r2⟩:=take (fun e=>absurd e hok)
          exact ⟨r,start (Ev.congr (fun k=>by rw [if_neg hok]) r1),r2⟩
  obtain ⟨r,r1,r2⟩:=loop _ 0 0 false rfl (by omega) (fun e=>by cases e) (fun e=>by cases e) (fun _=>⟨rfl,fun j hj hjn=>by omega⟩);exact ⟨r,r1,r2⟩
structure PnD (p c:Int) (core:List (List Sp)) (odd:List Gn) (T:Int) (r:Int × Bool):Prop where
  y:r.2=true→Ex p c core [] r.1∧lX odd r.1=none∧gLo p c core [] r.1≤T∧∀ m,Ex p c core [] m→lX odd m=none→gLo p c core [] m≤T→m≤r.1
  n:r.2=false→r.1=0∧∀ m,Ex p c core [] m→lX odd m=none→¬ gLo p c core [] m≤T
theorem wV (h:SF p c core odd) (t:TF p core) (T:Int) (hT:T≤1099511627777):∀ (d:Nat) (i:Int) (ok:Bool) (b:Int),
    (ok=true→(i+1099511627777).toNat≤d)→(ok=true→inR i∧jZ c core i≠[]∧gLo p c core [] i≤T) →
    (∀ m,Ex p c core [] m→lX odd m=none→gLo p c core [] m≤T→ok=true∧m≤i)→0≤b→b≤2 →
    (1≤b→ok=true→∀ m,m≤i→jZ c core m≠[]→gHi p c core [] m≤1099511627776) →
    (2≤b→ok=true→∀ m,m≤i→jZ c core m≠[]→gHi p c core [] m < -1099511627776) →
    ∃ r,Ev (fun k=>je.l1 k i ok b p c core odd) r∧PnD p c core odd T r:=by
  intro d;induction d with
  | zero =>
    intro i ok b hd hA hB h0 h2 hC hD;have hok:ok=false:=by
      cases ok with
      | true=>have:=hA rfl;have:=this.1;unfold inR at this;have:=hd rfl;omega
      | false=>rfl
    subst hok;exact ⟨(0,false),Ev.step (f:=fun _=>some (0,false)) (fun k=>by rw [je.l1,if_neg (by simp)]) (Ev.now _),⟨(fun e=>by cases e),fun _=>⟨rfl,fun m m1 m2 m3=>by cases (hB m m1 m2 m3).1⟩⟩⟩
  | succ d ih =>
    intro i ok b hd hA hB h0 h2 hC hD;cases ok with
    | false=>exact ⟨(0,false),Ev.step (f:=fun _=>some (0,false)) (fun k=>by rw [je.l1,if_neg (by simp)]) (Ev.now _),⟨(fun e=>by cases e),fun _=>⟨rfl,fun m m1 m2 m3=>by cases (hB m m1 m2 m3).1⟩⟩⟩
    | true =>
      obtain ⟨a1,a2,a3⟩:=hA rfl;have hd:=hd rfl;by_cases hb:b<2
      · obtain ⟨n,n1,n2⟩:=uY h.pY i (by unfold inR at a1;omega)
        have aa:=rF h.pY i;have next:∀ (b':Int),0≤b'→b'≤2→(∀ m,Ex p c core [] m→lX odd m=none→m≠i) →
            (1≤b'→∀ m,m<i→jZ c core m≠[]→gHi p c core [] m≤1099511627776)→(2≤b'→∀ m,m<i→jZ c core m≠[]→gHi p c core [] m < -1099511627776) →
            ∃ r,Ev (fun k=>je.l1 k n.1 n.2 b' p c core odd) r∧PnD p c core odd T r:=by
          intro b' g0 g2 gi gC gD;unfold inR at a1;refine ih n.1 n.2 b' (fun e => ?_) (fun e => ?_) (fun m m1 m2 m3 => ?_) g0 g2 (fun e1 e2 m hm => ?_) (fun e1 e2 m hm => ?_)
          · have:=(n2.1 e).1;omega
          · obtain ⟨q1,q2,q3,q4⟩:=n2.1 e
            have:=xX h t (i:=n.1) (k:=i) (by omega) q3 a2;have:=adV h q3;exact ⟨q2,q3,by omega⟩
          · have g3:=(hB m m1 m2 m3).2
            have g4:=gi m m1 m2;have g5:=m1.r;cases hn:n.2 with
            | true =>
              refine ⟨rfl,Classical.byContradiction fun hx => ?_⟩;unfold inR at g5;exact m1.n ((n2.1 hn).2.2.2 m (by omega) (by omega))
            | false =>
              exact absurd ((n2.2 hn).2 m (by unfold inR at g5;omega) g5) m1.n
          · have:=(n2.1 e2).1;exact gC e1 m (by omega)
          · have:=(n2.1 e2).1;exact gD e1 m (by omega)
        by_cases hx:Ex p c core [] i
        · rw [h.pY.qJ hx] at aa
          by_cases ho:lX odd i=none
          · refine ⟨(i,true),Ev.step (fun k=>by rw [je.l1,if_pos rfl,if_pos hb]) (Ev.bind aa (Ev.congr (fun k=>by rw [if_pos rfl,if_pos (u7 (by unfold inR at a1;omega) (by unfold inR at a1;omega)),if_pos ((wT i).2 ho)]) (Ev.now _))),⟨fun _=>⟨hx,ho,a3,fun m m1 m2 m3=>(hB m m1 m2 m3).2⟩,fun e=>by cases e⟩⟩
          · obtain ⟨r,r1,r2⟩:=next b h0 h2 (fun m _ m2 e=>ho (by rw [← e];exact m2)) (fun e m hm=>hC e rfl m (by omega)) (fun e m hm=>hD e rfl m (by omega))
            refine ⟨r,Ev.step (fun k=>by rw [je.l1,if_pos rfl,if_pos hb]) (Ev.bind aa (Ev.congr (fun k=>by rw [if_pos rfl,if_pos (u7 (by unfold inR at a1;omega) (by unfold inR at a1;omega)),if_neg (fun e=>ho ((wT i).1 e))]) (Ev.bind n1 r1))),r2⟩
        · rw [h.pY.uZ a2 hx] at aa
          have hw:wrap64 (b+1)=b+1:=jl (by omega) (by omega);obtain ⟨r,r1,r2⟩:=next (b+1) (by omega) (by omega) (fun m m1 _ e=>hx (by rw [← e];exact m1)) (fun _ m hm hmn=>by
              have:=xX h t hm hmn a2;omega) (fun e m hm hmn=>by
              have q1:=xX h t hm hmn a2;have q2:=hC (by omega) rfl i (Int.le_refl _) a2;refine Classical.byContradiction fun hq=>hx ⟨a1,a2,?_,q2⟩;omega)
          refine ⟨r,Ev.step (fun k=>by rw [je.l1,if_pos rfl,if_pos hb]) (Ev.bind aa (Ev.congr (fun k=>by rw [if_neg (by simp),hw]) (Ev.bind n1 r1))),r2⟩
      · refine ⟨(0,false),Ev.step (f:=fun _=>some (0,false)) (fun k=>by rw [je.l1,if_pos rfl,if_neg hb]) (Ev.now _),⟨(fun e=>by cases e),fun _=>⟨rfl,fun m m1 m2 m3 => ?_⟩⟩⟩
        have q1:=hD (by omega) rfl m (hB m m1 m2 m3).2 m1.n;have q2:=adV h m1.n;have:=m1.lo;omega
theorem yV (h:SF p c core odd) (t:TF p core) (T:Int) (hT : -1099511627777≤T∧T≤1099511627777):∃ r,Ev (fun k=>je.f k p c core odd T) r∧PnD p c core odd T r:=by
  obtain ⟨a,a1,a2⟩:=yU h T hT;have start:∀ {r:Int × Bool},Ev (fun k=>if a.2=true then (kM.f k p c core [] (wrap64 (a.1 - (-1)))).bind fun n=>je.l1 k n.1 n.2 0 p c core odd else some (0,false)) r→Ev (fun k=>je.f k p c core odd T) r:=fun he=>by
    refine Ev.congr (fun k=>by rw [je.f,if_pos h.guard]) ?_;exact Ev.bind a1 he
  have b1:=a2.lo;have b2:=a2.hi;cases ha:a.2 with
  | false=>exact ⟨(0,false),start (Ev.congr (fun k=>by rw [ha,if_neg (by simp)]) (Ev.now _)),⟨(fun e=>by cases e),fun _=>⟨rfl,fun m m1 _ _=>m1.n (a2.n ha m)⟩⟩⟩
  | true =>
    obtain ⟨q1,q2,q3⟩:=a2.y ha;have hw:wrap64 (a.1 - (-1))=a.1+1:=by rw [jl (by omega) (by omega)];omega
    obtain ⟨n,n1,n2⟩:=uY h.pY (a.1+1) (by omega);obtain ⟨r,r1,r2⟩:=wV h t T hT.2 (n.1+1099511627777).toNat n.1 n.2 0 (fun _=>Nat.le_refl _) (fun e=>by
      obtain ⟨g1,g2,g3,g4⟩:=n2.1 e;refine ⟨g2,g3,?_⟩;rcases Int.lt_trichotomy a.1 n.1 with g | g | g
      · omega
      · rw [← g];exact q2
      · have:=xX h t g g3 q1
        have:=adV h g3;omega) (fun m m1 m2 m3=>by
      have g3:=q3 m m1.n m3;have g5:=m1.r;cases hn:n.2 with
      | true =>
        refine ⟨rfl,Classical.byContradiction fun hx => ?_⟩;unfold inR at g5;exact m1.n ((n2.1 hn).2.2.2 m (by omega) (by omega))
      | false=>exact absurd ((n2.2 hn).2 m (by unfold inR at g5;omega) g5) m1.n) (by omega) (by omega) (fun e=>by omega) (fun e=>by omega)
    exact ⟨r,start (Ev.congr (fun k=>by rw [ha,if_pos rfl,hw]) (Ev.bind n1 r1)),r2⟩
structure TlD (p c:Int) (core:List (List Sp)) (odd:List Gn) (T:Int) (r:Int × Bool):Prop where
  y:r.2=true→Ex p c core odd r.1∧gLo p c core odd r.1≤T∧∀ m,Ex p c core odd m→gLo p c core odd m≤T→m≤r.1
  n:r.2=false→r.1=0∧∀ m,Ex p c core odd m→¬ gLo p c core odd m≤T
theorem vv (h:SF p c core odd) (T:Int):∀ (d n:Nat) (a:Int) (ok:Bool),odd.length - n=d→n≤odd.length →
    (ok=true→Ex p c core odd a∧gLo p c core odd a≤T)→(∀ m,Ex p c core odd m→gLo p c core odd m≤T→(lX odd m=none∨∃ j,∃ hj:j<odd.length,j<n∧odd[j].f0=m)→ok=true∧m≤a)→(ok=false→a=0) →
    ∃ r,Ev (fun k=>iJ.l0 k T a ok odd (odd.length:Int) (n:Int) (-1)) r∧TlD p c core odd T r:=by
  have hlo:=h.hlo;intro d;induction d with
  | zero =>
    intro n a ok hd hn i1 i2 i3;refine ⟨(a,ok),Ev.step (f:=fun _=>some (a,ok)) (fun k=>by rw [iJ.l0,if_neg (by omega)]) (Ev.now _),?_⟩;have all:∀ m,lX odd m=none∨∃ j,∃ hj:j<odd.length,j<n∧odd[j].f0=m:=fun m=>by
      rcases acY (odd:=odd) (m:=m) with g | ⟨j,hj,g⟩
      · exact .inl g
      · exact .inr ⟨j,hj,by omega,g⟩
    cases ok with
    | true=>exact ⟨fun _=>⟨(i1 rfl).1,(i1 rfl).2,fun m m1 m2=>(i2 m m1 m2 (all m)).2⟩,fun e=>by cases e⟩
    | false=>exact ⟨(fun e=>by cases e),fun _=>⟨i3 rfl,fun m m1 m2=>by cases (i2 m m1 m2 (all m)).1⟩⟩
  | succ d ih =>
    intro n a ok hd hn i1 i2 i3;have hlt:n<odd.length:=by omega
    have hw:wrap64 ((n:Int)+1)=((n+1:Nat):Int):=by rw [jl (by omega) (by omega)];simp
    have aa:=h.hodd _ (List.getElem_mem hlt);have hlen:odd[n].f1.length≤4611686018427387904:=by have:=aa.yP;omega
    obtain ⟨e1,e2,e3⟩:=aby h hlt;have skip:(odd[n].f1=[]∨¬ oq odd[n].f1≤T∨ok=true∧odd[n].f0≤a)→∃ r,Ev (fun k=>iJ.l0 k T a ok odd (odd.length:Int) ((n+1:Nat):Int) (-1)) r∧TlD p c core odd T r:=fun hs=>by
      refine ih (n+1) a ok (by omega) (by omega) i1 (fun m m1 m2 m3 => ?_) i3;rcases m3 with g | ⟨j,hj,g,g2⟩
      · exact i2 m m1 m2 (.inl g)
      · rcases Nat.lt_or_ge j n with g3 | g3
        · exact i2 m m1 m2 (.inr ⟨j,hj,g3,g2⟩)
        · have:j=n:=by omega
          subst this;subst g2;rcases hs with hs | hs | hs
          · exact absurd (by rw [e1];exact hs) m1.n
          · exact absurd (by rw [← e2];exact m2) hs
          · exact hs
    by_cases hz:odd[n].f1=[]
    · obtain ⟨r,r1,r2⟩:=skip (.inl hz)
      refine ⟨r,Ev.step (fun k => ?_) r1,r2⟩;rw [iJ.l0,if_pos (by omega),if_pos (by omega),if_pos (by omega),rdG odd n hlt,oQ _ hlen,mQ,if_pos hz,Option.bind_some,if_neg (by simp),hw]
    · by_cases hso:oq odd[n].f1≤T
      · have take:(ok=true→a≤odd[n].f0)→∃ r,Ev (fun k=>iJ.l0 k T odd[n].f0 true odd (odd.length:Int) ((n+1:Nat):Int) (-1)) r∧TlD p c core odd T r:=fun hle=>by
          refine ih (n+1) odd[n].f0 true (by omega) (by omega) (fun _=>⟨acX h hlt hz,by rw [e2];exact hso⟩) (fun m m1 m2 m3=>⟨rfl,?_⟩) (fun e=>by cases e);rcases m3 with g | ⟨j,hj,g,g2⟩
          · obtain ⟨q1,q2⟩:=i2 m m1 m2 (.inl g);have:=hle q1;omega
          · rcases Nat.lt_or_ge j n with g3 | g3
            · obtain ⟨q1,q2⟩:=i2 m m1 m2 (.inr ⟨j,hj,g3,g2⟩);have:=hle q1;omega
            · have:j=n:=by omega
              subst this;subst g2;exact Int.le_refl _
        have hd:decide (oq odd[n].f1≤T)=true:=decide_eq_true hso;by_cases hok:ok=true
        · have hr1:=(i1 hok).1.r
          have hr2:=h.hidx _ (List.getElem_mem hlt);unfold inR at hr1 hr2;have w3:wrap64 (wrap64 (odd[n].f0 - a)*(-1))=a - odd[n].f0:=by rw [jl (n:=odd[n].f0 - a) (by omega) (by omega),jl (by omega) (by omega)];omega
          by_cases hlt2:a - odd[n].f0<0
          · obtain ⟨r,r1,r2⟩:=take (fun _=>by omega)
            refine ⟨r,Ev.step (fun k => ?_) r1,r2⟩;rw [iJ.l0,if_pos (by omega),if_pos (by omega),if_pos (by omega),rdG odd n hlt,oQ _ hlen,mQ,if_neg hz,Option.bind_some,if_pos rfl,l7.f,Option.bind_some,if_pos hd,if_pos hok,w3,if_pos hlt2,hw]
          · obtain ⟨r,r1,r2⟩:=skip (.inr (.inr ⟨hok,by omega⟩))
            refine ⟨r,Ev.step (fun k => ?_) r1,r2⟩;rw [iJ.l0,if_pos (by omega),if_pos (by omega),if_pos (by omega),rdG odd n hlt,oQ _ hlen,mQ,if_neg hz,Option.bind_some,if_pos rfl,l7.f,Option.bind_some,if_pos hd,if_pos hok,w3,if_neg hlt2,hw]
        · obtain ⟨r,r1,r2⟩:=take (fun e=>absurd e hok)
          refine ⟨r,Ev.step (fun k => ?_) r1,r2⟩;rw [iJ.l0,if_pos (by omega),if_pos (by omega),if_pos (by omega),rdG odd n hlt,oQ _ hlen,mQ,if_neg hz,Option.bind_some,if_pos rfl,l7.f,Option.bind_some,if_pos hd,if_neg hok,hw]
      · obtain ⟨r,r1,r2⟩:=skip (.inr (.inl hso))
        refine ⟨r,Ev.step (fun k => ?_) r1,r2⟩;have hd:¬ decide (oq odd[n].f1≤T)=true:=by simp;omega
        rw [iJ.l0,if_pos (by omega),if_pos (by omega),if_pos (by omega),rdG odd n hlt,oQ _ hlen,mQ,if_neg hz,Option.bind_some,if_pos rfl,l7.f,Option.bind_some,if_neg hd,hw]
theorem adH (h:FOK p c core odd) (t:Int):∃ r,Ev (fun k=>jB.f k p c core odd t) r∧TlD p c core odd t r:=by
  have hcl:=aeB t;obtain ⟨a,a1,a2⟩:=yV h.s h.t (cl t) (by omega);obtain ⟨r,r1,r2⟩:=vv h.s (cl t) _ 0 a.1 a.2 rfl (by omega) (fun e=>by
    obtain ⟨q1,q2,q3,q4⟩:=a2.y e;exact ⟨(tZ q2).2 q1,by rw [(vk q2).2.1];exact q3⟩) (fun m m1 m2 m3=>by
    rcases m3 with g | ⟨j,hj,g,_⟩
    · have aa:=m2
      rw [(vk g).2.1] at aa;cases ha:a.2 with
      | true=>exact ⟨rfl,(a2.y ha).2.2.2 m ((tZ g).1 m1) g aa⟩
      | false=>exact absurd aa ((a2.n ha).2 m ((tZ g).1 m1) g)
    · omega) (fun e=>(a2.n e).1)
  have tr:∀ m,Ex p c core odd m→(gLo p c core odd m≤t↔gLo p c core odd m≤cl t):=fun m e=>by
    have:=e.lo;have:=e.hi;have:=h.s.oP e.n;omega
  refine ⟨r,?_,⟨fun e => ?_,fun e=>⟨(r2.n e).1,fun m m1 m2=>(r2.n e).2 m m1 ((tr m m1).1 m2)⟩⟩⟩
  · unfold jB.f
    refine Ev.bind (Ev.val rfl) ?_;refine Ev.bind (a:=(r.1,r.2)) ?_ (Ev.now _);unfold iJ.f;exact Ev.bind a1 r1
  · obtain ⟨q1,q2,q3⟩:=r2.y e
    exact ⟨q1,(tr _ q1).2 q2,fun m m1 m2=>q3 m m1 ((tr m m1).1 m2)⟩
end Go.Proofs.YtmbmalkpmanaaaaGreat.P
namespace Go.Proofs.YtmbmalkpmanaaaaGreat.P
set_option linter.unusedVariables false
set_option linter.unusedSimpArgs false
open Go.RowKit Go.Shelf Go.Proofs.YtmbmalkpmanaaaaGreatW.iD Go.Proofs.YtmbmalkpmanaaaaGreatW.jA Go.Proofs.YtmbmalkpmanaaaaGreatW.jw
def wW:List (List S38):=[[⟨0,4⟩]]
theorem adI:nC.f [⟨0,4⟩] [⟨3,8⟩]=some [⟨3,4⟩]:=by
  obtain ⟨h1,h2⟩:=tO (fun a b=>a&&b) rfl (lo:=0) (hi:=100) (by omega) (by omega) (a:=[⟨0,4⟩]) (b:=[⟨3,8⟩]) (by simp [SL]) (by simp [SL]);have:rC (fun a b=>a&&b) [⟨0,4⟩] [⟨3,8⟩]=[⟨3,4⟩]:=SL.uniq h1 (show SL 0 100 _ by simp [SL]) (fun x=>by
    rw [h2,Bool.eq_iff_iff];simp [lY];omega)
  unfold nC.f;rw [if_pos (by simp [many]),this]
theorem adJ:nC.f [⟨7,11⟩] [⟨3,8⟩]=some [⟨7,8⟩]:=by
  obtain ⟨h1,h2⟩:=tO (fun a b=>a&&b) rfl (lo:=0) (hi:=100) (by omega) (by omega) (a:=[⟨7,11⟩]) (b:=[⟨3,8⟩]) (by simp [SL]) (by simp [SL]);have:rC (fun a b=>a&&b) [⟨7,11⟩] [⟨3,8⟩]=[⟨7,8⟩]:=SL.uniq h1 (show SL 0 100 _ by simp [SL]) (fun x=>by
    rw [h2,Bool.eq_iff_iff];simp [lY];omega)
  unfold nC.f;rw [if_pos (by simp [many]),this]
theorem ach:jC.f 60 7 1 wW [] [⟨3,8⟩]=some ([0,1],0):=by
  have h:jE.f 60 7 1 wW [] 3 8=some [(0,[⟨0,4⟩]),(1,[⟨7,11⟩])]:=by with_unfolding_all rfl
  have hr:iO.f 60 [⟨3,8⟩]=some true:=by with_unfolding_all rfl
  have hh:jh.f [⟨3,8⟩]=some (3,8,true):=by with_unfolding_all rfl
  simp only [jC.f,hr,hh,h,Option.bind_some,if_true,jC.l,oG.f,adI,adJ];rfl
theorem aci:jC.f 60 7 1 wW [] [⟨5,6⟩]=some ([],0):=by
  have h:jE.f 60 7 1 wW [] 5 6=some []:=by with_unfolding_all rfl
  have hr:iO.f 60 [⟨5,6⟩]=some true:=by with_unfolding_all rfl
  have hh:jh.f [⟨5,6⟩]=some (5,6,true):=by with_unfolding_all rfl
  simp only [jC.f,hr,hh,h,Option.bind_some,if_true,jC.l]
theorem aeD:lQ.f 60 7 1 wW [] 9=some (1,true):=by with_unfolding_all rfl
theorem aeE:lQ.f 60 7 1 wW [] 5=some (0,false):=by with_unfolding_all rfl
theorem acj:jv.f 60 7 1 wW [] 5=some (1,true):=by with_unfolding_all rfl
theorem acn:jB.f 60 7 1 wW [] 5=some (0,true):=by with_unfolding_all rfl
theorem adK:iU.f 60 [0,1] [0,1]=some true:=by with_unfolding_all rfl
theorem aco:jv.f 60 0 0 [] [⟨3,[⟨5,6⟩]⟩] 7=some (0,false):=by with_unfolding_all rfl
theorem acp:jB.f 60 0 0 [] [⟨3,[⟨5,6⟩]⟩] 100=some (3,true):=by with_unfolding_all rfl
theorem abA:jg.f 60=some true:=by
  unfold jg.f mJ.f;rw [Option.bind_some,Option.bind_some];dsimp only;rw [show ([[⟨0,4⟩]]:List (List S38))=wW from rfl];rw [ach,Option.bind_some,aci,Option.bind_some];rw [show iE.f 1 true=some 0 from rfl,Option.bind_some,aeD,Option.bind_some];rw [show iw.f 1 true 1 true=some true from rfl,Option.bind_some,if_pos rfl];rw [show iE.f 0 false=some 0 from rfl,Option.bind_some,aeE,Option.bind_some];rw [show iw.f 0 false 0 false=some true from rfl,Option.bind_some,if_pos rfl];rw [Option.bind_some,acj,Option.bind_some];rw [show iw.f 1 true 1 true=some true from rfl,Option.bind_some,if_pos rfl];rw [show iE.f 0 true=some 0 from rfl,Option.bind_some,acn,Option.bind_some];rw [show iw.f 0 true 0 true=some true from rfl,Option.bind_some,if_pos rfl];rw [if_pos rfl,if_pos rfl,adK,Option.bind_some,if_pos rfl];rw [show ((([],0):List Int × Int).1.length:Int)=0 from rfl,if_pos rfl];rw [Option.bind_some,aco,Option.bind_some];rw [show iw.f 0 false 0 false=some true from rfl,Option.bind_some,if_pos rfl];rw [show iE.f 3 true=some 0 from rfl,Option.bind_some,acp,Option.bind_some];rfl
theorem vw:Ev (fun k=>jg.f k) true:=Ev.of jg.mono abA
end Go.Proofs.YtmbmalkpmanaaaaGreat.P
namespace Go.Proofs.YtmbmalkpmanaaaaGreat.P
set_option linter.unusedVariables false
set_option linter.unusedSimpArgs false
open Go.RowKit Go.ChangeShapes Go.WideShapes Go.Deep Go.Proofs.YtmbmalkpmanaaaaGreatW.iD Go.Proofs.YtmbmalkpmanaaaaGreatW.jw
theorem aaH {cs:List Value} (h:cs.length=2):∃ a b,cs=[a,b]:=by
  match cs,h with
  | [a,b],_=>exact ⟨a,b,rfl⟩
theorem aaJ {cs:List Value} (h:cs.length=4):∃ a b c d,cs=[a,b,c,d]:=by
  match cs,h with
  | [a,b,c,d],_=>exact ⟨a,b,c,d,rfl⟩
theorem yX {T:Type} (k:Kd T) {H:Type} {enc:TypeId × Value→H} {w:World} {base:Nat} {held:Bool} {t e:TypeId} {fuel:Nat} {cs:List Value} {x:DataW H × List MemPlace}
    (ht:Tryz.prog.underlying t=some (.slice e)) (hn:Tryz.prog.cellsOf e=k.sz) (Q:T→Prop)
    (op:∀ fuel cs x,DataW.trod enc Tryz.prog w base (fun _=>true) held fuel e cs=some x→∃ v,k.K w v cs∧Q v)
    (h:DataW.trod enc Tryz.prog w base (fun _=>true) held fuel t cs=some x) :
    ∃ (a:Option Addr) (cap:Nat) (l:List T),cs=[.slice a l.length cap]∧l.length≤cap∧Kd.C k w a l.length l∧(∀ s∈l,Q s)∧l.length≤9223372036854775807:=by
  rcases open_slice ht h with ⟨hc,_⟩ | ⟨a,len,cap,m,n,D,Pl,hc,hb,hl,hm,hmm,hx,hi⟩
  · exact ⟨none,0,[],by rw [hc];rfl,Nat.le_refl _,⟨rfl,by simp,fun h=>absurd h (by simp)⟩,by simp,by simp⟩
  · have hlm:len≤m:=by rw [hmm];simpa using hl
    have hk:∀ i,i<len→∃ v cs',k.K w v cs'∧Q v∧∀ j u,cs'[j]? = some u→w.cell? (a.add (i*k.sz+j))=some u:=by
      intro i hi';obtain ⟨cs',h1,h2⟩:=hi i (by omega);rw [hn] at h1;obtain ⟨_,hlen,hcell⟩:=World.cells?_some h1;obtain ⟨v,v1,v2⟩:=op _ _ _ h2;refine ⟨v,cs',v1,v2,fun j u hu => ?_⟩;have hj:j<k.sz:=by rw [← hlen];exact (List.getElem?_eq_some_iff.1 hu).1
      have:=hcell j hj;rw [Deep.add_add] at this;rw [this,hu]
    have hmax:len≤9223372036854775807:=by unfold maxLen at hm;omega
    suffices key:∀ q,q≤len→∃ l:List T,l.length=q∧(∀ j s,l[j]? = some s→∃ cs',k.K w s cs'∧∀ i u,cs'[i]? = some u→w.cell? (a.add (j*k.sz+i))=some u)∧∀ s∈l,Q s by
      obtain ⟨l,rfl,hl2,hfit⟩:=key len (Nat.le_refl _);refine ⟨some a,cap,l,hc,hl,⟨rfl,hmax,fun _=>⟨a,rfl,fun j s hj => ?_⟩⟩,hfit,hmax⟩;obtain ⟨cs',g1,g2⟩:=hl2 j s hj;exact ⟨cs',k.qo g1,g1,g2⟩
    intro q;induction q with
    | zero=>exact fun _=>⟨[],rfl,fun j s h=>by simp at h,by simp⟩
    | succ q ih =>
      intro hk';obtain ⟨l,hl1,hl2,hl3⟩:=ih (by omega);obtain ⟨s,cs',h0,h1,h2⟩:=hk q (by omega);refine ⟨l++[s],by simp [hl1],fun j t hj => ?_,fun t ht => ?_⟩
      · by_cases hjk:j<l.length
        · rw [List.getElem?_append_left hjk] at hj;exact hl2 j t hj
        · rw [List.getElem?_append_right (by omega)] at hj
          have:j - l.length=0:=by
            by_cases e:j - l.length=0
            · exact e
            · rw [List.getElem?_eq_none (by simp;omega)] at hj;cases hj
          rw [this] at hj;simp at hj;subst hj;have:j=q:=by omega
          subst this;exact ⟨cs',h0,h2⟩
      · simp at ht
        rcases ht with ht | rfl
        · exact hl3 t ht
        · exact h1
section
variable {H:Type} {enc:TypeId × Value→H} {w:World} {base:Nat} {held:Bool} {fuel:Nat} {cs:List Value} {x:DataW H × List MemPlace}
theorem q9 (h:DataW.trod enc Tryz.prog w base (fun _=>true) held fuel 3 cs=some x):∃ n,cs=[.int .i64 n]∧fits n:=by
  obtain ⟨n,e0,_,w0⟩:=DataW.trod_int Tryz.underlying3 h;exact ⟨n,e0,w0⟩
theorem adL (h:DataW.trod enc Tryz.prog w base (fun _=>true) held fuel 38 cs=some x):∃ s:Sp,k38.K w s cs∧qX s:=by
  obtain ⟨xs,n,_,_,hl,hxs,hf⟩:=DataW.trod_struct Tryz.underlying38 h;have e9:Tryz.prog.cellsOf 38=2:=by kernel_rfl
  rw [e9] at hl;have hl2:cs.length=2:=hl;clear hl e9;obtain ⟨v0,v1,rfl⟩:=aaH hl2;have g0:DataW.trod enc Tryz.prog w base (fun _=>true) held n 3 (List.take (Tryz.prog.cellsOf 3) (List.drop 0 [v0,v1]))=xs[0]? := hf 0 _ rfl;rw [show Tryz.prog.cellsOf 3=1 by kernel_rfl] at g0;have g1:DataW.trod enc Tryz.prog w base (fun _=>true) held n 3 (List.take (Tryz.prog.cellsOf 3) (List.drop 1 [v0,v1]))=xs[1]? := hf 1 _ rfl;rw [show Tryz.prog.cellsOf 3=1 by kernel_rfl] at g1;cases hx0:xs[0]? with
  | none=>have:=List.getElem?_eq_none_iff.1 hx0;rw [hxs] at this;exact absurd this (by decide)
  | some y0 =>
    cases hx1:xs[1]? with
    | none=>have:=List.getElem?_eq_none_iff.1 hx1;rw [hxs] at this;exact absurd this (by decide)
    | some y1 =>
      rw [hx0] at g0;rw [hx1] at g1;obtain ⟨a,ea,wa⟩:=q9 g0;obtain ⟨b,eb,wb⟩:=q9 g1;have aa:[v0]=[.int .i64 a]:=ea;have eb':[v1]=[.int .i64 b]:=eb;injection aa with aa
      injection eb' with eb'
      subst aa eb';exact ⟨⟨a,b⟩,acH w ⟨a,b⟩,wa,wb⟩
theorem zG (h:DataW.trod enc Tryz.prog w base (fun _=>true) held fuel 27 cs=some x):∃ (a:Option Addr) (cap:Nat) (l:List Sp),cs=[.slice a l.length cap]∧l.length≤cap∧Kd.C k38 w a l.length l∧(∀ s∈l,qX s)∧l.length≤9223372036854775807 :=
  yX k38 Tryz.underlying27 (by kernel_rfl) qX (fun _ _ _ g=>adL g) h
theorem abB (h:DataW.trod enc Tryz.prog w base (fun _=>true) held fuel 27 cs=some x):∃ l:List Sp,(Kd.slice 38 k38).K w l cs∧((∀ s∈l,qX s)∧l.length≤9223372036854775807):=by
  obtain ⟨a,cap,l,rfl,h1,h2,h3,h4⟩:=zG h;exact ⟨l,⟨a,cap,rfl,h1,h2⟩,h3,h4⟩
theorem abC (h:DataW.trod enc Tryz.prog w base (fun _=>true) held fuel 22 cs=some x):∃ (a:Option Addr) (cap:Nat) (l:List (List Sp)),cs=[.slice a l.length cap]∧l.length≤cap∧Kd.C (Kd.slice 38 k38) w a l.length l∧(∀ s∈l,(∀ z∈s,qX z)∧s.length≤9223372036854775807)∧l.length≤9223372036854775807 :=
  yX (Kd.slice 38 k38) Tryz.underlying22 (by kernel_rfl) _ (fun _ _ _ g=>abB g) h
def zH (g:S50):Prop:=fits g.f0∧(∀ z∈g.f1,qX z)∧g.f1.length≤9223372036854775807
theorem adM (h:DataW.trod enc Tryz.prog w base (fun _=>true) held fuel 50 cs=some x):∃ g:S50,k50.K w g cs∧zH g:=by
  obtain ⟨xs,n,_,_,hl,hxs,hf⟩:=DataW.trod_struct Tryz.underlying50 h;have e9:Tryz.prog.cellsOf 50=2:=by kernel_rfl
  rw [e9] at hl;have hl2:cs.length=2:=hl;clear hl e9;obtain ⟨v0,v1,rfl⟩:=aaH hl2;have g0:DataW.trod enc Tryz.prog w base (fun _=>true) held n 3 (List.take (Tryz.prog.cellsOf 3) (List.drop 0 [v0,v1]))=xs[0]? := hf 0 _ rfl;rw [show Tryz.prog.cellsOf 3=1 by kernel_rfl] at g0;have g1:DataW.trod enc Tryz.prog w base (fun _=>true) held n 27 (List.take (Tryz.prog.cellsOf 27) (List.drop 1 [v0,v1]))=xs[1]? := hf 1 _ rfl;rw [show Tryz.prog.cellsOf 27=1 by kernel_rfl] at g1;cases hx0:xs[0]? with
  | none=>have:=List.getElem?_eq_none_iff.1 hx0;rw [hxs] at this;exact absurd this (by decide)
  | some y0 =>
    cases hx1:xs[1]? with
    | none=>have:=List.getElem?_eq_none_iff.1 hx1;rw [hxs] at this;exact absurd this (by decide)
    | some y1 =>
      rw [hx0] at g0;rw [hx1] at g1;obtain ⟨a,ea,wa⟩:=q9 g0;obtain ⟨b,cap,l,eb,l1,l2,l3,l4⟩:=zG g1;have aa:[v0]=[.int .i64 a]:=ea;have eb':[v1]=[.slice b l.length cap]:=eb;injection aa with aa
      injection eb' with eb'
      subst aa eb';exact ⟨⟨a,l⟩,acI w ⟨a,l⟩ l1 l2,wa,l3,l4⟩
theorem acr (h:DataW.trod enc Tryz.prog w base (fun _=>true) held fuel 23 cs=some x):∃ (a:Option Addr) (cap:Nat) (l:List S50),cs=[.slice a l.length cap]∧l.length≤cap∧Kd.C k50 w a l.length l∧(∀ s∈l,zH s)∧l.length≤9223372036854775807 :=
  yX k50 Tryz.underlying23 (by kernel_rfl) zH (fun _ _ _ g=>adM g) h
structure acs (p c:Int) (core:List (List Sp)) (odd:List S50):Prop where
  fp:fits p
  fc:fits c
  afa:∀ l∈core,(∀ z∈l,qX z)∧l.length≤9223372036854775807
  afy:∀ g∈odd,zH g
  lc:core.length≤9223372036854775807
  lo:odd.length≤9223372036854775807
set_option maxRecDepth 200000 in
theorem abD {b0:Nat} {v:Value} {d:DataW H} {ps:List MemPlace} (hv:Value.okWide Tryz.prog w .any b0 25 v) (h:DataW.Trod enc Tryz.prog w base (fun _=>true) held 25 v d ps) :
    ∃ (p c:Int) (A2:Option Addr) (c2:Nat) (core:List (List Sp)) (A3:Option Addr) (c3:Nat) (odd:List S50),v=.agg #[.int .i64 p,.int .i64 c,.slice A2 core.length c2,.slice A3 odd.length c3] ∧
      Kd.C (Kd.slice 38 k38) w A2 core.length core∧core.length≤c2∧Kd.C k50 w A3 odd.length odd∧odd.length≤c3∧acs p c core odd:=by
  have hq:=okWide_struct (P:=Tryz.prog) (w:=w) (r:=.any) (base:=b0) (t:=25) (v:=v) Tryz.underlying25;have hq2:=hq hv;obtain ⟨cs,rfl,hsz⟩:=hq2;obtain ⟨fuel,h⟩:=h;obtain ⟨xs,n,_,_,hl,hxs,hf⟩:=DataW.trod_struct Tryz.underlying25 h;have e9:Tryz.prog.cellsOf 25=4:=by kernel_rfl
  rw [e9] at hl;have hl2:cs.toList.length=4:=hl;clear hl e9;obtain ⟨l⟩:=cs;obtain ⟨v0,v1,v2,v3,rfl⟩:=aaJ hl2;have g0:DataW.trod enc Tryz.prog w base (fun _=>true) held n 3 (List.take (Tryz.prog.cellsOf 3) (List.drop 0 [v0,v1,v2,v3]))=xs[0]? := hf 0 _ rfl;rw [show Tryz.prog.cellsOf 3=1 by kernel_rfl] at g0;have g1:DataW.trod enc Tryz.prog w base (fun _=>true) held n 3 (List.take (Tryz.prog.cellsOf 3) (List.drop 1 [v0,v1,v2,v3]))=xs[1]? := hf 1 _ rfl;rw [show Tryz.prog.cellsOf 3=1 by kernel_rfl] at g1;have g2:DataW.trod enc Tryz.prog w base (fun _=>true) held n 22 (List.take (Tryz.prog.cellsOf 22) (List.drop 2 [v0,v1,v2,v3]))=xs[2]? := hf 2 _ rfl;rw [show Tryz.prog.cellsOf 22=1 by kernel_rfl] at g2;have g3:DataW.trod enc Tryz.prog w base (fun _=>true) held n 23 (List.take (Tryz.prog.cellsOf 23) (List.drop 3 [v0,v1,v2,v3]))=xs[3]? := hf 3 _ rfl;rw [show Tryz.prog.cellsOf 23=1 by kernel_rfl] at g3;have hx:∀ j,j<4→∃ y,xs[j]? = some y:=fun j hj=>⟨_,List.getElem?_eq_getElem (by rw [hxs];exact hj)⟩;obtain ⟨y0,e0⟩:=hx 0 (by omega);obtain ⟨y1,e1⟩:=hx 1 (by omega);obtain ⟨y2,e2⟩:=hx 2 (by omega);obtain ⟨y3,e3⟩:=hx 3 (by omega);rw [e0] at g0;rw [e1] at g1;rw [e2] at g2;rw [e3] at g3;obtain ⟨p,ep,wp⟩:=q9 g0;obtain ⟨c,ec,wc⟩:=q9 g1;obtain ⟨A2,c2,core,e2',l1,l2,l3,l4⟩:=abC g2;obtain ⟨A3,c3,odd,e3',m1,m2,m3,m4⟩:=acr g3;have ac:[v0]=[.int .i64 p]:=ep;have ae:[v1]=[.int .i64 c]:=ec;have aa:[v2]=[.slice A2 core.length c2]:=e2';have ab:[v3]=[.slice A3 odd.length c3]:=e3';injection ac with ac
  injection ae with ae
  injection aa with aa
  injection ab with ab
  subst ac ae aa ab;exact ⟨p,c,A2,c2,core,A3,c3,odd,rfl,l2,l1,m2,m1,⟨wp,wc,l3,m3,l4,m4⟩⟩
end
end Go.Proofs.YtmbmalkpmanaaaaGreat.P
namespace Go.Proofs.YtmbmalkpmanaaaaGreat.P
set_option linter.unusedVariables false
set_option linter.unusedSimpArgs false
open Go.RowKit Go.Proofs.YtmbmalkpmanaaaaGreatW.iD Go.Proofs.YtmbmalkpmanaaaaGreatW.jw
variable {p c:Int} {core:List (List Sp)} {odd:List Gn}
theorem acs.mf (f:acs p c core odd):MF core odd:=⟨fun l hl=>(f.afa l hl).2,fun g hg=>(f.afy g hg).2.2⟩
theorem adN (h:FOK p c core odd) {x i:Int} {r:Int × Bool} (s:FrU p c core odd x r) (e:Ex p c core odd i) (h1:gLo p c core odd i≤x) (h2:x≤gHi p c core odd i):r=(i,true):=by
  obtain ⟨a,b⟩:=r;cases b with
  | false=>exact absurd h2 ((s.n rfl).2 i e)
  | true =>
    obtain ⟨q1,q2,q3⟩:=s.y rfl;have:=q3 i e h2;rcases Int.lt_trichotomy a i with g | g | g
    · have:=h.ord a i g q1.r e.r q1.n e.n
      simp only at q2;omega
    · rw [g]
    · simp only at this;omega
theorem rA (h:SF p c core odd) {x i:Int} (e:Ex p c core odd i) (hx:lY (gT p c core odd i) x=true):gLo p c core odd i≤x∧x≤gHi p c core odd i:=by
  have:=(h.aan e).rQ hx;rw [(sO e.n).2.1,(sO e.n).2.2] at this;exact this
structure AtS (p c:Int) (core:List (List Sp)) (odd:List Gn) (t:Int) (r:Int × Bool):Prop where
  y:r.2=true→Ex p c core odd r.1∧lY (gT p c core odd r.1) t=true
  n:r.2=false→r.1=0∧∀ m,Ex p c core odd m→lY (gT p c core odd m) t=false
theorem afb (h:FOK p c core odd) (t:Int):∃ r,Ev (fun k=>lQ.f k p c core odd t) r∧AtS p c core odd t r:=by
  obtain ⟨a,a1,a2⟩:=yT h t;unfold lQ.f;cases ha:a.2 with
  | false =>
    refine ⟨(0,false),Ev.bind a1 (Ev.no (by rw [ha];simp) (Ev.now _)),⟨(fun e=>by cases e),fun _=>⟨rfl,fun m e => ?_⟩⟩⟩;refine Bool.eq_false_iff.2 fun hm => ?_;exact (a2.n ha).2 m e (rA h.s e hm).2
  | true =>
    obtain ⟨q1,q2,q3⟩:=a2.y ha;have g:=rF h.s a.1;rw [h.s.qJ q1] at g;have hs:=h.s.aan q1;have hv:=aew (gT p c core odd a.1) t hs (by have:=hs.yP;omega);cases hb:lY (gT p c core odd a.1) t with
    | true =>
      rw [hb] at hv;refine ⟨(a.1,true),Ev.bind a1 (Ev.yes ha (Ev.bind g (Ev.bind hv (Ev.yes rfl (Ev.now _))))),⟨fun _=>⟨q1,hb⟩,(fun e=>by cases e)⟩⟩
    | false =>
      rw [hb] at hv;refine ⟨(0,false),Ev.bind a1 (Ev.yes ha (Ev.bind g (Ev.bind hv (Ev.no (by simp) (Ev.now _))))),⟨(fun e=>by cases e),fun _=>⟨rfl,fun m e => ?_⟩⟩⟩;refine Bool.eq_false_iff.2 fun hm => ?_;obtain ⟨l1,l2⟩:=rA h.s e hm;have:=adN h a2 e l1 l2;rw [this] at hb;rw [hb] at hm;cases hm
theorem at_at (h:FOK p c core odd) {x i:Int} {r:Int × Bool} (s:AtS p c core odd x r) (e:Ex p c core odd i) (hx:lY (gT p c core odd i) x=true):r=(i,true):=by
  obtain ⟨a,b⟩:=r;obtain ⟨h1,h2⟩:=rA h.s e hx;cases b with
  | false=>have:=(s.n rfl).2 i e;rw [hx] at this;cases this
  | true =>
    obtain ⟨q1,q2⟩:=s.y rfl;obtain ⟨g1,g2⟩:=rA h.s q1 q2;simp only at q1 g1 g2;rcases Int.lt_trichotomy i a with g | g | g
    · have:=h.ord i a g e.r q1.r e.n q1.n;omega
    · rw [g]
    · have:=h.ord a i g q1.r e.r q1.n e.n;omega
end Go.Proofs.YtmbmalkpmanaaaaGreat.P
namespace Go.Proofs.YtmbmalkpmanaaaaGreat.P
set_option linter.unusedVariables false
set_option linter.unusedSimpArgs false
open Go.RowKit Go.Proofs.YtmbmalkpmanaaaaGreatW.iD Go.Proofs.YtmbmalkpmanaaaaGreatW.jw
variable {p c:Int} {core:List (List Sp)} {odd:List Gn}
theorem Ev.map' {α β:Type} {g:Nat→Option α} {r:α} (h:Ev g r) (f:α→β):Ev (fun n=>(g n).map f) (f r):=by
  obtain ⟨K,hK⟩:=h;exact ⟨K,fun k hk=>by show (g k).map f=_;rw [hK k hk];rfl⟩
theorem abE:∀ {a b:List Int},a.Pairwise (· < ·)→b.Pairwise (· < ·)→(∀ x,x∈a↔x∈b)→a=b
  | [],[],_,_,_=>rfl
  | [],y :: b,_,_,h=>by have:=(h y).2 (by simp);simp at this
  | x :: a,[],_,_,h=>by have:=(h x).1 (by simp);simp at this
  | x :: a,y :: b,ha,hb,h=>by
    obtain ⟨a1,a2⟩:=List.pairwise_cons.1 ha;obtain ⟨b1,b2⟩:=List.pairwise_cons.1 hb;have hxy:x=y:=by
      rcases List.mem_cons.1 ((h x).1 (by simp)) with g | g
      · exact g
      · rcases List.mem_cons.1 ((h y).2 (by simp)) with g2 | g2
        · exact g2.symm
        · have:=b1 x g;have:=a1 y g2;omega
    subst hxy;rw [abE a2 b2 (fun z => ?_)];have hz:=h z;simp only [List.mem_cons] at hz;constructor
    · intro g
      have:x<z:=a1 z g;rcases hz.1 (.inr g) with e | e
      · omega
      · exact e
    · intro g
      have:x<z:=b1 z g;rcases hz.2 (.inr g) with e | e
      · omega
      · exact e
theorem xY (h:FOK p c core odd) (h1:Int):∀ (d:Nat) (i:Int) (ok:Bool),(ok=true→(1099511627777 - i).toNat≤d)→(ok=true→inR i∧fs c core odd i≠[]∧∃ j,Ex p c core odd j∧j≤i) →
    ∃ xs,Ev (fun k=>jE.l k i ok h1 p c core odd) xs∧xs.Pairwise (fun x y=>x.1<y.1)∧(∀ x∈xs,ok=true∧i≤x.1∧Ex p c core odd x.1∧x.2=gT p c core odd x.1∧gLo p c core odd x.1≤h1) ∧
      (∀ j,ok=true→i≤j→Ex p c core odd j→gLo p c core odd j≤h1→(j,gT p c core odd j)∈xs):=by
  intro d;induction d with
  | zero =>
    intro i ok hd hA;cases ok with
    | false=>exact ⟨[],Ev.step (f:=fun _=>some []) (fun k=>by rw [jE.l,if_neg (by simp)]) (Ev.now _),List.Pairwise.nil,by simp,(fun j e=>by cases e)⟩
    | true=>have:=(hA rfl).1;unfold inR at this;have:=hd rfl;omega
  | succ d ih =>
    intro i ok hd hA;cases ok with
    | false=>exact ⟨[],Ev.step (f:=fun _=>some []) (fun k=>by rw [jE.l,if_neg (by simp)]) (Ev.now _),List.Pairwise.nil,by simp,(fun j e=>by cases e)⟩
    | true =>
      obtain ⟨a1,a2,j0,a3,a4⟩:=hA rfl;have hd:=hd rfl;have aa:=rF h.s i;by_cases hx:Ex p c core odd i
      · rw [h.s.qJ hx] at aa
        obtain ⟨t1,t2,t3⟩:=sO (p:=p) (c:=c) (core:=core) (odd:=odd) a2;obtain ⟨y1,y2⟩:=abp _ t1;have ab:=h.s.oP a2;by_cases hlo:gLo p c core odd i>h1
        · have e1:Ev (fun k=>jE.l k i true h1 p c core odd) []:=by
            refine Ev.step (fun k=>by rw [jE.l,if_pos rfl]) ?_;refine Ev.bind aa (Ev.yes rfl (Ev.yes y1 (Ev.yes ?_ (Ev.now _))));rw [y2,t2];exact hlo
          refine ⟨[],e1,List.Pairwise.nil,by simp,fun j _ hj e hjl => ?_⟩;exfalso;rcases Int.lt_trichotomy i j with g | g | g
          · have:=h.ord i j g a1 e.r a2 e.n;omega
          · rw [← g] at hjl;omega
          · omega
        · obtain ⟨n,n1,n2⟩:=sN h.s i (by unfold inR at a1;omega)
          unfold inR at a1;obtain ⟨xs,x1,x2,x3,x4⟩:=ih n.1 n.2 (fun e=>by have:=(n2.1 e).1;omega) (fun e=>⟨(n2.1 e).2.1,(n2.1 e).2.2.1,i,hx,by have:=(n2.1 e).1;omega⟩);have e1:Ev (fun k=>jE.l k i true h1 p c core odd) ((i,gT p c core odd i) :: xs):=by
            refine Ev.step (fun k=>by rw [jE.l,if_pos rfl]) ?_;refine Ev.bind aa (Ev.yes rfl (Ev.yes y1 (Ev.no ?_ (Ev.bind n1 (Ev.map' x1 _)))));rw [y2,t2];exact hlo
          refine ⟨(i,gT p c core odd i) :: xs,e1,List.pairwise_cons.2 ⟨fun x hxm => ?_,x2⟩,fun x hxm => ?_,fun j _ hj e hjl => ?_⟩
          · obtain ⟨b1,b2,_⟩:=x3 x hxm
            have:=(n2.1 b1).1;show i<x.1;omega
          · rcases List.mem_cons.1 hxm with rfl | hxm
            · exact ⟨rfl,Int.le_refl _,hx,rfl,by show gLo p c core odd i≤h1;omega⟩
            · obtain ⟨b1,b2,b3,b4,b5⟩:=x3 x hxm
              have:=(n2.1 b1).1;exact ⟨rfl,by omega,b3,b4,b5⟩
          · rcases Int.lt_or_le i j with g | g
            · have g5:=e.r
              unfold inR at g5;cases hn:n.2 with
              | false=>exact absurd ((n2.2 hn).2 j (by omega) e.r) e.n
              | true =>
                refine List.mem_cons_of_mem _ (x4 j hn ?_ e hjl);refine Classical.byContradiction fun hq => ?_;exact e.n ((n2.1 hn).2.2.2 j (by omega) (by omega))
            · have:j=i:=by omega
              subst this;simp
      · rw [h.s.uZ a2 hx] at aa
        have e1:Ev (fun k=>jE.l k i true h1 p c core odd) []:=by
          refine Ev.step (fun k=>by rw [jE.l,if_pos rfl]) ?_;exact Ev.bind aa (Ev.no (by simp) (Ev.now _))
        refine ⟨[],e1,List.Pairwise.nil,by simp,fun j _ hj e hjl => ?_⟩;exfalso;have hne:i≠j:=fun q=>hx (by rw [q];exact e);have hne2:j0≠i:=fun q=>hx (by rw [← q];exact a3);have o1:=h.ord j0 i (by omega) a3.r a1 a3.n a2;have o2:=h.ord i j (by omega) a1 e.r a2 e.n;have l1:=h.s.oP a3.n;have l2:=h.s.oP e.n;refine hx ⟨a1,a2,?_,?_⟩
        · have:=a3.lo;omega
        · have:=e.hi;omega
structure BtS (p c:Int) (core:List (List Sp)) (odd:List Gn) (h0 h1:Int) (xs:List (Int × List Sp)):Prop where
  up:xs.Pairwise (fun x y=>x.1<y.1)
  mem:∀ x∈xs,Ex p c core odd x.1∧x.2=gT p c core odd x.1∧h0≤gHi p c core odd x.1∧gLo p c core odd x.1≤h1
  all:∀ j,Ex p c core odd j→h0≤gHi p c core odd j→gLo p c core odd j≤h1→(j,gT p c core odd j)∈xs
theorem aao (h:FOK p c core odd) (h0 h1:Int):∃ xs,Ev (fun k=>jE.f k p c core odd h0 h1) xs∧BtS p c core odd h0 h1 xs:=by
  obtain ⟨a,a1,a2⟩:=yT h h0;obtain ⟨xs,x1,x2,x3,x4⟩:=xY h h1 (1099511627777 - a.1).toNat a.1 a.2 (fun _=>Nat.le_refl _) (fun e=>by
    obtain ⟨q1,q2,q3⟩:=a2.y e;exact ⟨q1.r,q1.n,a.1,q1,Int.le_refl _⟩)
  refine ⟨xs,?_,⟨x2,fun x hx => ?_,fun j e g1 g2 => ?_⟩⟩
  · unfold jE.f
    exact Ev.bind a1 x1
  · obtain ⟨b1,b2,b3,b4,b5⟩:=x3 x hx
    obtain ⟨q1,q2,q3⟩:=a2.y b1;refine ⟨b3,b4,?_,b5⟩;rcases Int.lt_or_le a.1 x.1 with g | g
    · have:=h.ord a.1 x.1 g q1.r b3.r q1.n b3.n
      have:=h.s.oP b3.n;omega
    · have:x.1=a.1:=by omega
      rw [this];exact q2
  · cases ha:a.2 with
    | false=>exact absurd g1 ((a2.n ha).2 j e)
    | true=>exact x4 j ha ((a2.y ha).2.2 j e g1) e g2
def uw (l m:List Sp):Bool:=decide ((rC (fun a b=>a&&b) l m)≠[])
theorem ac0 (l:List Sp) (hl:l.length≤500000):∀ (xs:List (Int × List Sp)) (n:Int) (out:List Int),(∀ x∈xs,x.2.length≤500000)→n≤60000 →
    jC.l l xs n out=some (if n+xs.length≤60000 then (out++(xs.filter (fun x=>uw x.2 l)).map (·.1),0) else ([],3))
  | [],n,out,_,hn=>by simp [jC.l,hn]
  | x :: r,n,out,hx,hn=>by
    have hm:oG.f x.2 l=some (uw x.2 l):=adC _ _ (by have:=hx x (by simp);omega);rw [jC.l];by_cases h:n+1>60000
    · rw [if_pos h,if_neg (by simp only [List.length_cons];omega)]
    · rw [if_neg h,hm,Option.bind_some,ac0 l hl r (n+1) _ (fun y hy=>hx y (by simp [hy])) (by omega)]
      have e:(n+1+(r.length:Int)≤60000)↔(n+((x :: r).length:Int)≤60000):=by simp only [List.length_cons];omega
      by_cases g:n+((x :: r).length:Int)≤60000
      · rw [if_pos g,if_pos (e.2 g)]
        by_cases hb:uw x.2 l=true
        · rw [if_pos hb];simp [List.filter_cons,hb]
        · rw [if_neg hb];simp [List.filter_cons,hb]
      · rw [if_neg g,if_neg (fun q=>g (e.1 q))]
theorem adO (h:FOK p c core odd) {l:List Sp} (hs:SL (-1099511627776) 1099511627776 l) (hl:l.length≤500000) (hne:l≠[]) (hf:∀ i,(fs c core odd i).length≤500000) :
    ∃ xs,BtS p c core odd (oq l) (oh l) xs∧Ev (fun k=>jC.f k p c core odd l) (if (xs.length:Int)≤60000 then ((xs.filter (fun x=>uw x.2 l)).map (·.1),0) else ([],3)):=by
  obtain ⟨xs,x1,x2⟩:=aao h (oq l) (oh l);refine ⟨xs,x2,?_⟩;have hr:=uz l (by omega);rw [uU.2 hs] at hr;have hh:jh.f l=some (oq l,oh l,true):=by rw [oQ l (by omega),mQ,if_neg hne]
  unfold jC.f;refine Ev.bind hr (Ev.yes rfl (Ev.bind (Ev.val hh) (Ev.yes rfl (Ev.bind x1 ?_))));rw [ac0 l hl xs 0 [] (fun x hx=>by rw [(x2.mem x hx).2.1];unfold gT;rw [List.length_map];exact hf _) (by omega)];simp only [Int.zero_add,List.nil_append];exact Ev.now _
theorem sP {a b:List Sp} (ha:SL (-1099511627776) 1099511627776 a) (hb:SL (-1099511627776) 1099511627776 b):uw a b=true↔∃ x,lY a x=true∧lY b x=true:=by
  obtain ⟨k1,k2⟩:=adB (fun a b=>a&&b) rfl ha hb;unfold uw;rw [decide_eq_true_iff];constructor
  · intro hn
    cases hk:rC (fun a b=>a&&b) a b with
    | nil=>exact absurd hk hn
    | cons s r =>
      rw [hk] at k1;have:=SL.ticks k1 (s:=s) (by simp);have e:=k2 s.f0;rw [hk,kP] at e;have:(decide (s.f0≤s.f0)&&decide (s.f0≤s.f1) || lY r s.f0)=true:=by simp;omega
      rw [this] at e;have:=Bool.and_eq_true_iff.1 e.symm;exact ⟨s.f0,this.1,this.2⟩
  · rintro ⟨x,h1,h2⟩ he
    have e:=k2 x;rw [he,oo,h1,h2] at e;cases e
end Go.Proofs.YtmbmalkpmanaaaaGreat.P
namespace Go.Proofs.YtmbmalkpmanaaaaGreat.P
set_option linter.unusedVariables false
set_option linter.unusedSimpArgs false
open Go.RowKit Go.Maps Go.Proofs.YtmbmalkpmanaaaaGreatW.iD Go.Proofs.YtmbmalkpmanaaaaGreatW.jA
def adP:List Int→Nat
  | []=>0
  | y :: r=>adP r+if y∈r then 0 else 1
def aap (l:List Int):Int:=(adP l.reverse:Nat)
theorem aaq (l:List Int) (y:Int):aap (l++[y])=aap l+if y∈l then 0 else 1:=by
  unfold aap;rw [List.reverse_append];show ((adP l.reverse+if y∈l.reverse then 0 else 1:Nat):Int)=_;by_cases h:y∈l <;> simp [h]
def CMo (mo:Obj) (l:List Int):Prop:=∀ (w:World) (b:Nat),w.heap[b]? = some mo →
  ∃ D:DataW Unit,w.ownsMap Tryz.prog 3 (plainElem Tryz.prog 3) b l.length D∧Tidy D∧(∀ x:Int,D.atKey (.int .i64 x) (.lit (.int .i64 0))=.lit (.int .i64 (qp l x)))∧(∀ x:Int,has D (.int .i64 x)=decide (x∈l))∧(Maps.size D:Int)=aap l
theorem CMo.nil:CMo (.map #[] 0) []:=fun w b h=>by
  obtain ⟨es,clock,hb,F,hs,hD⟩:=World.ownsMap_made (H:=Unit) w Tryz.prog 3 (plainElem Tryz.prog 3);have hb':=(heap_alloc_new w (.map #[] 0)).symm.trans hb;exact ⟨.map [],⟨es,clock,h.trans hb',F,hs,hD⟩,tidy_empty,fun x=>rfl,fun x=>rfl,rfl⟩
theorem CMo.of {w:World} {b:Nat} {mo:Obj} {l:List Int} (hb:w.heap[b]? = some mo)
    (h:∃ D:DataW Unit,w.ownsMap Tryz.prog 3 (plainElem Tryz.prog 3) b l.length D∧Tidy D∧(∀ x:Int,D.atKey (.int .i64 x) (.lit (.int .i64 0))=.lit (.int .i64 (qp l x)))∧(∀ x:Int,has D (.int .i64 x)=decide (x∈l))∧(Maps.size D:Int)=aap l):CMo mo l:=fun w' b' h'=>by
  obtain ⟨D,⟨es,clock,hb2,F,hs,hD⟩,h2⟩:=h;exact ⟨D,⟨es,clock,h'.trans (hb.symm.trans hb2),F,hs,hD⟩,h2⟩
theorem CMo.adQ {mo:Obj} {l:List Int} (h:CMo mo l) (cs:Array Value) (t:TypeId) (fz:Nat × Nat):mo≠.cells cs t fz:=by
  intro e;subst e;obtain ⟨D,⟨es,clock,hb,_⟩,_⟩:=h ((default:World).alloc (.cells cs t fz)) _ (heap_alloc_new _ _);rw [heap_alloc_new] at hb;injection hb with hb
  injection hb
theorem CMo.far {α:Type} {d:Kd α} {e base g:Nat} {ok:Nat→Prop} {w:World} {v:Value} {xs:List α} {mo:Obj} {l:List Int} (hm:CMo mo l) (hb:w.heap[g]? = some mo) (h:d.R e w base ok v xs):some g≠v.ownBlock:=by
  intro hk;obtain ⟨cs,hc⟩:=Kd.qN h g hk.symm;exact hm.adQ cs e (0,0) (Option.some.inj (hb.symm.trans hc))
section
variable {w:World} {ops:Array Oper} {rest:List Oper} {o:Oper} {a:Act} {Q:Exit→Act→World→Prop} {b:Nat} {l:List Int} {mo:Obj}
theorem CMo.lookup (hb:w.heap[b]? = some mo) (aa:CMo mo l)
    (hg:o.guard=none) (m x:Operand) (hop:o.op=Op.lookup 96 m x false) (hm:a.eval m=.map (some b)) (y:Int) (hy:(Lit.int .i64 y).wf=true) (hx:a.eval x=.int .i64 y)
    (hK:wpList Tryz.prog ops Q rest (a.put o.dst (.int .i64 (qp l y))) w):wpList Tryz.prog ops Q (o :: rest) a w:=by
  obtain ⟨D,h1,h2,h3,_⟩:=aa w b hb;refine wpList_lookup_own_int w hg m x 96 hop 3 3 .i64 aeO Tryz.underlying96 Tryz.underlying3 (aeo w) b l.length D hm h1 _ _ hx (keyOf_int_mk Tryz.underlying3 hy) (fun c hc _ => ?_);have e:qp l y=c:=by have:=(h3 y).symm.trans hc;injection this with this;injection this
  rw [← e];exact hK
theorem CMo.len (hb:w.heap[b]? = some mo) (aa:CMo mo l)
    (hg:o.guard=none) (m:Operand) (hop:o.op=Op.call { callee:=Callee.builtin Builtin.len,args:=#[m],argTypes:=#[96] }) (hm:a.eval m=.map (some b))
    (hK:wpList Tryz.prog ops Q rest (a.put o.dst (.int .i64 (aap l))) w):wpList Tryz.prog ops Q (o :: rest) a w:=by
  obtain ⟨D,h1,_,_,_,h5⟩:=aa w b hb;refine wpList_len_own w hg m 96 hop 3 3 Tryz.underlying96 _ b l.length D hm h1 ?_;rw [h5];exact hK
theorem CMo.update (hb:w.heap[b]? = some mo) (aa:CMo mo l)
    (hg:o.guard=none) (m x v:Operand) (hop:o.op=Op.mapUpdate 96 m x v) (hm:a.eval m=.map (some b)) (hl:l.length<maxLen) (y:Int) (hy:(Lit.int .i64 y).wf=true) (hx:a.eval x=.int .i64 y) (hv:a.eval v=.int .i64 (wrap64 (qp l y+1)))
    (hK:∀ w' mo',w'.heap[b]? = some mo'→CMo mo' (l++[y])→w.grownBy w' (some b)→wpList Tryz.prog ops Q rest (a.put o.dst undef) w'):wpList Tryz.prog ops Q (o :: rest) a w:=by
  obtain ⟨D,h1,h2,h3,h4,h5⟩:=aa w b hb;refine wpList_mapUpdate_own w hg m x v 96 hop 3 3 aeO Tryz.underlying96 _ b l.length D hm h1 hl _ _ _ hx hv (keyOf_int_mk Tryz.underlying3 hy) _ _ (plainElem_int Tryz.underlying3 (wrap64_wf _)) (fun w' r1 r2 => ?_);have hown:w'.ownsMap Tryz.prog 3 (plainElem Tryz.prog 3) b (l++[y]).length (D.put (.int .i64 y) (.lit (.int .i64 (wrap64 (qp l y+1))))):=r1.mono (by simp);obtain ⟨es,clock,hb2,hrest⟩:=hown;refine hK w' _ hb2 (CMo.of hb2 ⟨D.put (.int .i64 y) (.lit (.int .i64 (wrap64 (qp l y+1)))),⟨es,clock,hb2,hrest⟩,h2.put (by trivial) _,fun z => ?_,fun z => ?_,?_⟩) r2
  · have hw:wrap64 (qp l y+1)=qp l y+1:=by have:=yI l y;unfold wrap64;unfold maxLen at hl;omega
    rw [xM];by_cases e:y=z
    · subst e;rw [atKey_put_same h2.isMap (by trivial),hw,if_pos rfl]
    · rw [atKey_put_other (by intro h;injection h with _ h;exact e h.symm),h3,if_neg e,Int.add_zero]
  · by_cases e:y=z
    · subst e;rw [has_put_same h2.isMap (by trivial)];simp
    · rw [has_put_other (by intro h;injection h with _ h;exact e h.symm),h4]
      simp [show z≠y from fun q=>e q.symm]
  · rw [size_put h2,h4,aaq,← h5]
    by_cases e:y∈l <;> simp [e]
end
end Go.Proofs.YtmbmalkpmanaaaaGreat.P
namespace Go.Proofs.YtmbmalkpmanaaaaGreat.P
set_option linter.unusedVariables false
set_option linter.unusedSimpArgs false
open Go.RowKit Go.Proofs.YtmbmalkpmanaaaaGreatW.iD Go.Proofs.YtmbmalkpmanaaaaGreatW.jw
variable {p c:Int} {core:List (List Sp)} {odd:List Gn}
theorem Ev.uni {α:Type} {g:Nat→Option α} {a b:α} (h:Ev g a) (k:Ev g b):a=b:=by
  obtain ⟨K,hK⟩:=h;obtain ⟨L,hL⟩:=k;exact Option.some.inj ((hK (max K L) (by omega)).symm.trans (hL (max K L) (by omega)))
theorem acu (hc:∀ l∈core,l.length≤4398046511104) (ho:∀ g∈odd,g.f1.length≤4398046511104) (hl:core.length≤6000) (hlo:odd.length≤6000) :
    ∃ n,Ev (fun k=>j6.f k p c core odd) n∧(∀ l∈core,(l.length:Int)≤n)∧(∀ g∈odd,(g.f1.length:Int)≤n):=by
  have k1:∀ (d n:Nat) (x:Int),odd.length - n=d→n≤odd.length→0≤x→x≤4398046511104*(6000+(n:Int)) →
      ∃ r,Ev (fun k=>j6.l1 k x odd (odd.length:Int) (n:Int)) r∧x≤r∧∀ (j:Nat) (hj:j<odd.length),n≤j→((odd[j].f1).length:Int)≤r:=by
    intro d;induction d with
    | zero =>
      intro n x hd hn h0 h1;exact ⟨x,Ev.step (f:=fun _=>some x) (fun k=>by rw [j6.l1,if_neg (by omega)]) (Ev.now _),Int.le_refl _,fun j hj aa=>by omega⟩
    | succ d ih =>
      intro n x hd hn h0 h1;have hlt:n<odd.length:=by omega
      have hb:=ho _ (List.getElem_mem hlt);have hx:wrap64 (x+((odd[n].f1).length:Int))=x+((odd[n].f1).length:Int):=jl (by omega) (by omega);obtain ⟨r,r1,r2,r3⟩:=ih (n+1) (x+((odd[n].f1).length:Int)) (by omega) (by omega) (by omega) (by omega);have hw:wrap64 ((n:Int)+1)=((n+1:Nat):Int):=by rw [jl (by omega) (by omega)];simp
      refine ⟨r,Ev.step (fun k=>by rw [j6.l1,if_pos (by omega),if_pos (by omega),if_pos (by omega),rdG odd n hlt,hw,hx]) r1,by omega,fun j hj aa => ?_⟩;rcases Nat.lt_or_ge n j with g | g
      · exact r3 j hj g
      · have:j=n:=by omega
        subst this;omega
  have k0:∀ (d n:Nat) (x:Int),core.length - n=d→n≤core.length→0≤x→x≤4398046511104*(n:Int) →
      ∃ r,Ev (fun k=>j6.l0 k x core (core.length:Int) (n:Int) p c core odd) r∧x≤r∧(∀ (j:Nat) (hj:j<core.length),n≤j→((core[j]).length:Int)≤r)∧∀ (j:Nat) (hj:j<odd.length),((odd[j].f1).length:Int)≤r:=by
    intro d;induction d with
    | zero =>
      intro n x hd hn h0 h1;obtain ⟨r,r1,r2,r3⟩:=k1 _ 0 x rfl (by omega) h0 (by omega);exact ⟨r,Ev.step (fun k=>by rw [j6.l0,if_neg (by omega)];rfl) r1,r2,fun j hj aa=>by omega,fun j hj=>r3 j hj (by omega)⟩
    | succ d ih =>
      intro n x hd hn h0 h1;have hlt:n<core.length:=by omega
      have hb:=hc _ (List.getElem_mem hlt);have hx:wrap64 (x+((core[n]).length:Int))=x+((core[n]).length:Int):=jl (by omega) (by omega);obtain ⟨r,r1,r2,r3,r4⟩:=ih (n+1) (x+((core[n]).length:Int)) (by omega) (by omega) (by omega) (by omega);have hw:wrap64 ((n:Int)+1)=((n+1:Nat):Int):=by rw [jl (by omega) (by omega)];simp
      refine ⟨r,Ev.step (fun k=>by rw [j6.l0,if_pos (by omega),if_pos (by omega),if_pos (by omega),rdL core n hlt,hw,hx]) r1,by omega,fun j hj aa => ?_,r4⟩;rcases Nat.lt_or_ge n j with g | g
      · exact r3 j hj g
      · have:j=n:=by omega
        subst this;omega
  obtain ⟨r,r1,_,r3,r4⟩:=k0 _ 0 0 rfl (by omega) (by omega) (by omega);refine ⟨r,r1,fun l hm => ?_,fun g hm => ?_⟩
  · obtain ⟨j,hj,rfl⟩:=List.getElem_of_mem hm
    exact r3 j hj (by omega)
  · obtain ⟨j,hj,rfl⟩:=List.getElem_of_mem hm
    exact r4 j hj
structure Few (p c:Int) (core:List (List Sp)) (odd:List Gn):Prop where
  ok:FOK p c core odd
  lc:core.length≤12
  lo:odd.length≤8
  hc:∀ l∈core,l.length≤60
  ho:∀ g∈odd,g.f1.length≤60
theorem aar (m:MF core odd):∃ b,Ev (fun k=>kN.f k p c core odd) b∧(b=true→Few p c core odd):=by
  obtain ⟨b,b1,b2⟩:=abu (p:=p) (c:=c) m;refine ⟨b,b1,fun hb => ?_⟩;obtain ⟨h,hl,hlo⟩:=b2 hb;obtain ⟨n,n1,n2,n3⟩:=acu (p:=p) (c:=c) (core:=core) (odd:=odd) (fun l hm=>by have:=SL.len (lo:=0) (h.s.hcore l hm);omega) (fun g hm=>by have:=SL.len (lo:=0) (h.s.hodd g hm);omega) h.s.hl h.s.hlo;have hn:n≤60:=by
    refine Classical.byContradiction fun hn => ?_;have hs:Ev (fun k=>kK.f k p c core odd) false:=by
      unfold kK.f;refine Ev.yes (by omega) (Ev.yes (by omega) (Ev.bind n1 ?_));rw [decide_eq_false hn];exact Ev.now _
    have hr:Ev (fun k=>kN.f k p c core odd) false:=by
      unfold kN.f;exact Ev.bind hs (Ev.no (by simp) (Ev.now _))
    rw [hb] at b1;have:=Ev.uni b1 hr;cases this
  exact ⟨h,hl,hlo,fun l hm=>by have:=n2 l hm;omega,fun g hm=>by have:=n3 g hm;omega⟩
theorem Few.fs (w:Few p c core odd) (i:Int):(fs c core odd i).length≤60:=by
  unfold P.fs;cases ho:lX odd i with
  | some l =>
    obtain ⟨g,hg,_,rfl⟩:=pJ ho;exact w.ho g hg
  | none =>
    show (jZ c core i).length≤60;by_cases hc:c=0
    · unfold jZ;rw [if_pos hc];simp
    · exact w.hc _ (w.ok.s.pO i hc)
theorem abF (t:Int):∀ (L:List Int) (b:Int),L.Pairwise (· < ·)→(∀ x∈L,b<x∧x≤t)→(L.length:Int)≤max 0 (t - b)
  | [],b,_,_=>by simp only [List.length_nil];omega
  | y :: r,b,h,hb=>by
    obtain ⟨h1,h2⟩:=List.pairwise_cons.1 h;have e1:=abF t r y h2 (fun x hx=>⟨h1 x hx,(hb x (by simp [hx])).2⟩);have e2:=hb y (by simp);simp only [List.length_cons];omega
theorem aeF (h:FOK p c core odd) {h0 h1:Int}:∀ {xs:List (Int × List Sp)},BtS p c core odd h0 h1 xs→(xs.length:Int)≤max 0 (h1 - h0)+1
  | [],_=>by simp only [List.length_nil];omega
  | x :: r,s=>by
    obtain ⟨u1,u2⟩:=List.pairwise_cons.1 s.up;have ex:=s.mem x (by simp);have em:∀ y∈r,Ex p c core odd y.1∧gLo p c core odd y.1≤h1:=fun y hy=>⟨(s.mem y (by simp [hy])).1,(s.mem y (by simp [hy])).2.2.2⟩;have pw:(r.map (fun y=>gLo p c core odd y.1)).Pairwise (· < ·):=by
      rw [List.pairwise_map];refine List.Pairwise.imp_of_mem (fun {a b} ha hb hab => ?_) u2;have ea:=(em a ha).1;have eb:=(em b hb).1;have:=h.ord a.1 b.1 hab ea.r eb.r ea.n eb.n;have:=h.s.oP ea.n;omega
    have e:=abF h1 (r.map (fun y=>gLo p c core odd y.1)) h0 pw (fun v hv=>by
      obtain ⟨y,hy,rfl⟩:=List.mem_map.1 hv;have ey:=em y hy;have:=h.ord x.1 y.1 (u1 y hy) ex.1.r ey.1.r ex.1.n ey.1.n;have:=ex.2.2.1;exact ⟨by omega,ey.2⟩)
    simp only [List.length_map] at e;simp only [List.length_cons];omega
theorem acv (a:List Sp) (ha:SL (-1099511627776) 1099511627776 a):¬ uw a []=true:=by
  rw [sP (b:=[]) ha trivial];rintro ⟨x,_,hx⟩;simp [lY] at hx
theorem abG (h:FOK p c core odd) (hf:∀ i,(fs c core odd i).length≤60) {l:List Sp} (hs:SL (-1099511627776) 1099511627776 l) (hl:l.length≤1000) (hb:l≠[]→oh l - oq l≤50000) :
    ∃ z,Ev (fun k=>jC.f k p c core odd l) (z,0)∧z.Pairwise (· < ·)∧(∀ i,i∈z↔Ex p c core odd i∧uw (gT p c core odd i) l=true)∧z.length≤60000:=by
  by_cases hn:l=[]
  · subst hn
    have hr:=uz [] (by simp);have hh:jh.f []=some (0,0,false):=by rw [oQ [] (by simp)];rfl
    refine ⟨[],?_,List.Pairwise.nil,fun i=>⟨fun e=>by simp at e,fun e=>absurd e.2 (acv _ (h.s.aan e.1))⟩,by simp⟩;unfold jC.f;exact Ev.bind hr (Ev.yes rfl (Ev.bind (Ev.val hh) (Ev.no (by simp) (Ev.now _))))
  · obtain ⟨xs,x1,x2⟩:=adO h hs (by omega) hn (fun i=>by have:=hf i;omega)
    have hlen:=aeF h x1;have:=hb hn;rw [if_pos (by omega)] at x2;refine ⟨_,x2,?_,fun i => ?_,?_⟩
    · rw [List.pairwise_map];exact x1.up.filter _
    · simp only [List.mem_map,List.mem_filter]
      constructor
      · rintro ⟨x,⟨hx,hm⟩,rfl⟩
        obtain ⟨e1,e2,_,_⟩:=x1.mem x hx;rw [e2] at hm;exact ⟨e1,hm⟩
      · rintro ⟨e,hm⟩
        obtain ⟨t,t1,t2⟩:=(sP (h.s.aan e) hs).1 hm;have b1:=rA h.s e t1;have b2:=SL.rQ hs t2;exact ⟨_,⟨x1.all i e (by omega) (by omega),hm⟩,rfl⟩
    · have:=List.length_filter_le (fun x:Int × List Sp=>uw x.2 l) xs
      rw [List.length_map];omega
end Go.Proofs.YtmbmalkpmanaaaaGreat.P
namespace Go.Proofs.YtmbmalkpmanaaaaGreat.P
set_option linter.unusedVariables false
set_option linter.unusedSimpArgs false
open Go.RowKit Go.Proofs.YtmbmalkpmanaaaaGreatW.iD
theorem aas (l:List Sp) (n:Int) (hs:SL (-1099511627776) 1099511627776 l) (hn : -9223372036854775808≤n∧n≤9223372036854775807):Ev (fun k=>jq.f k l n) (qI n l):=by
  have hl:=SL.acR hs;have key:∀ (rest pre:List Sp),l=pre++rest→pre.all (okM n)=true→Ev (fun k=>jq.l0 k l n (pre.map (oH n)) (pre.length:Int)) (qI n l):=by
    intro rest;induction rest with
    | nil =>
      intro pre hp hok;have e:l=pre:=by rw [hp];simp
      refine Ev.step (f:=fun _=>some (pre.map (oH n),0)) (fun k => ?_) ?_
      · rw [jq.l0,if_neg (by rw [hp];simp)]
      · rw [e];unfold qI;rw [if_pos hok];exact Ev.now _
    | cons s r ih =>
      intro pre hp hok;have hlen:pre.length+1≤l.length:=by rw [hp];simp
      have hrd:gN l (pre.length:Int)=s:=by rw [hp];exact pW _ _ _
      have hw:=nU pre s l.length hlen (by omega);have c1:(pre.length:Int)<(l.length:Int):=by omega
      have c2:(0:Int)≤(pre.length:Int):=by omega
      have c3:(pre.map (oH n)).length<8796093022208:=by rw [List.length_map];omega
      have ht:=SL.ticks hs (s:=s) (by rw [hp];simp);have w1:wrap64 (1099511627776 - s.f1)=1099511627776 - s.f1:=jl (by omega) (by omega);have w2:wrap64 (-1099511627776 - s.f0) = -1099511627776 - s.f0:=jl (by omega) (by omega);have bad:okM n s=false→qI n l=([],20):=fun h=>by
        unfold qI;rw [if_neg (by rw [hp,List.all_append,List.all_cons,h];simp)]
      by_cases g1:n>1099511627776 - s.f1
      · rw [bad (by rw [Bool.eq_false_iff];intro e;have:=uW.1 e;omega)]
        refine Ev.step (f:=fun _=>some ([],20)) (fun k => ?_) (Ev.now _);rw [jq.l0,if_pos c1,if_pos c2,hrd,w1,if_pos g1]
      · by_cases g2:n < -1099511627776 - s.f0
        · rw [bad (by rw [Bool.eq_false_iff];intro e;have:=uW.1 e;omega)]
          refine Ev.step (f:=fun _=>some ([],20)) (fun k => ?_) (Ev.now _);rw [jq.l0,if_pos c1,if_pos c2,hrd,w1,w2,if_neg g1,if_pos g2]
        · refine Ev.step (fun k => ?_) (ih (pre++[s]) (by rw [hp];simp) (by
            have:okM n s=true:=uW.2 (by omega);rw [List.all_append,hok];simp [this]))
          rw [jq.l0,if_pos c1,if_pos c2,hrd,w1,w2,if_neg g1,if_neg g2,if_pos c3,hw,List.map_append,jl (n:=s.f0+n) (by omega) (by omega),jl (n:=s.f1+n) (by omega) (by omega)];rfl
  exact key l [] rfl rfl
end Go.Proofs.YtmbmalkpmanaaaaGreat.P
