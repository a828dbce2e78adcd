/- Lemmas for laws of chapter 7: what the functions that they reach compute. No condition of its own. -/
import Derived.Test.YtongeknogcboiaaGreatYL18
import Derived.Test.YtongeknogcboiaaGreatYL17
namespace Go.Proofs.YtongeknogcboiaaGreat.Q
set_option linter.unusedVariables false
set_option linter.unusedSimpArgs false
open Go.RowKit Go.Proofs.YtongeknogcboiaaGreatW.fK Go.Proofs.YtongeknogcboiaaGreatW.iE M R P
variable [Inhabited WT]
variable {p c:Int} {core:List (List Sp)} {odd:List Gn} {γ:Type}
theorem afl (b x T p:Int) (hT : -1099511627777≤T∧T≤1099511627777) (hb : -1099511627776≤b∧b≤1099511627776) (hp:0<p∧p≤1099511627776):Ev (fun k=>jq.f k b x T p) ((T - b) / p):=by
  unfold jq.f;rw [jh (n:=T - b) (by omega) (by omega)];exact Ev.bind (uq (T - b) p (by omega) (by omega)) (Ev.now _)
theorem acN (h:SF p c core odd) (T:Int) (hT : -1099511627777≤T∧T≤1099511627777):∃ r,PlD p c core T r∧∀ (X:Nat→Int→Bool→Option γ) (v:γ),Ev (fun k=>X k r.1 r.2) v →
    Ev (fun k=>fI.l0 (X k) T core (core.length:Int) p c k 0 false 0) v:=by
  have hc:=h.hc;have hl:=h.hl;have loop:∀ (d n:Nat) (a:Int) (ok:Bool),core.length - n=d→n≤core.length →
      (ok=true→∃ j,∃ hj:j<core.length,core[j]≠[]∧a=dnI T p c core[j] j)→(ok=true→∀ j (hj:j<core.length),j<n→core[j]≠[]→dnI T p c core[j] j≤a)→(ok=false→a=0∧∀ j (hj:j<core.length),j<n→core[j]=[]) →
      ∃ r,PlD p c core T r∧∀ (X:Nat→Int→Bool→Option γ) (v:γ),Ev (fun k=>X k r.1 r.2) v→Ev (fun k=>fI.l0 (X k) T core (core.length:Int) p c k a ok (n:Int)) v:=by
    intro d;induction d with
    | zero =>
      intro n a ok hd hn i1 i2 i3;refine ⟨(a,ok),?_,fun X v hX=>Ev.step (fun k=>rfl) ?_⟩
      · cases ok with
        | true =>
          obtain ⟨j,hj,hne,rfl⟩:=i1 rfl;obtain ⟨e1,e2⟩:=vV h ((T - kV core[j]) / p) j hj;have hne':iP c core (dnI T p c core[j] j)≠[]:=by unfold dnI;rw [e1];exact hne
          obtain ⟨b1,b2,b3,b4⟩:=aa8 h T hT hj hne;have e3:dnI T p c core[j] j % c=j:=(aeb _ c j (by omega) (by omega)).2;have e4:iP c core (dnI T p c core[j] j)=core[j]:=e1;refine ⟨fun _=>⟨hne',(ac7 h T hne').2 ?_,fun m hm ac => ?_⟩,(fun e=>by cases e),(by simp only [dnI];omega),(by simp only [dnI];omega)⟩
          · simp only [e3,e4];exact Int.le_refl _
          · obtain ⟨_,_,i,hi,f1,f2⟩:=nJ h hm
            have g1:=(ac7 h T hm).1 ac;rw [f1,f2] at g1;have:=i2 rfl i hi (by omega) (by rw [← f2];exact hm);simp only;omega
        | false =>
          obtain ⟨rfl,hz⟩:=i3 rfl;refine ⟨(fun e=>by cases e),(fun _ m=>Classical.byContradiction fun hm => ?_),by simp,by simp⟩;obtain ⟨_,_,i,hi,f1,f2⟩:=nJ h hm;exact hm (by rw [f2];exact hz i hi (by omega))
      · have c1:¬ (n:Int)<(core.length:Int):=by omega
        simp only [fI.l0,fI.l0T,decide_eq_true_eq,c1,if_false];exact Ev.shift hX
    | succ d ih =>
      intro n a ok hd hn i1 i2 i3;have hlt:n<core.length:=by omega
      have hw:wq ((n:Int)+1)=((n+1:Nat):Int):=by rw [jh (by omega) (by omega)];simp
      have c1:(n:Int)<(core.length:Int):=by omega
      have c2:(0:Int)≤(n:Int):=by omega
      have ab:=h.hcore _ (List.getElem_mem hlt);have hh:=fun k=>uy k ab;by_cases hz:core[n]=[]
      · obtain ⟨r,r2,r1⟩:=ih (n+1) a ok (by omega) (by omega) i1 (fun e j hj hjn hne=>by
          rcases Nat.lt_or_ge j n with g | g
          · exact i2 e j hj g hne
          · have:j=n:=by omega
            subst this;exact absurd hz hne) (fun e=>⟨(i3 e).1,fun j hj hjn=>by
          rcases Nat.lt_or_ge j n with g | g
          · exact (i3 e).2 j hj g
          · have:j=n:=by omega
            subst this;exact hz⟩)
        refine ⟨r,r2,fun X v hX=>Ev.step (fun k=>rfl) ?_⟩;have hh':∀ k,iA.f k core[n]=some (⟨0,0⟩,false):=fun k=>by rw [hh k];simp [hz]
        simp only [fI.l0,fI.l0T,decide_eq_true_eq,c1,c2,if_true,rdL core n hlt,hh',Option.bind_some,hw];exact Ev.yes (by simp) (r1 (fun k=>X (k+1)) v (Ev.shift hX))
      · obtain ⟨b1,b2,b3,b4⟩:=aa8 h T hT hlt hz
        have af:=ab.ends hz;have hp:p≠0:=fun e=>by have:=h.hz.2 e;omega
        have hp0:=h.hp0;have hp1:=h.hp1;have aa:=afl (kV core[n]) (lH core[n]) T p hT (by omega) (by omega);have eu:(T - kV core[n]) / p*c+n=dnI T p c core[n] n:=rfl;generalize hz1:(T - kV core[n]) / p=z at *;have w1:wq (z*c)=z*c:=jh (by omega) (by omega);have w2:wq (z*c+n)=dnI T p c core[n] n:=by rw [← eu];exact jh (by omega) (by omega)
        have hub : -13194139533336000≤dnI T p c core[n] n∧dnI T p c core[n] n≤13194139533336000:=by rw [← eu];omega
        have take:(ok=true→a≤dnI T p c core[n] n)→∃ r,PlD p c core T r∧∀ (X:Nat→Int→Bool→Option γ) (v:γ),Ev (fun k=>X k r.1 r.2) v→Ev (fun k=>fI.l0 (X k) T core (core.length:Int) p c k (dnI T p c core[n] n) true ((n+1:Nat):Int)) v:=fun hle=>by
          refine ih (n+1) _ true (by omega) (by omega) (fun _=>⟨n,hlt,hz,rfl⟩) (fun _ j hj hjn hne => ?_) (fun e=>by cases e);rcases Nat.lt_or_ge j n with g | g
          · cases ok with
            | true=>have:=i2 rfl j hj g hne;have:=hle rfl;omega
            | false=>exact absurd ((i3 rfl).2 j hj g) hne
          · have:j=n:=by omega
            subst this;exact Int.le_refl _
        simp only [hz,if_false] at hh;by_cases hok:ok=true
        · obtain ⟨j,hj,hne,ea⟩:=i1 hok
          have hab : -13194139533336000≤a∧a≤13194139533336000:=by
            obtain ⟨c1,c2,c3,c4⟩:=aa8 h T hT hj hne;rw [ea];unfold dnI;omega
          have w3:wq (wq (dnI T p c core[n] n - a)*(-1))=a - dnI T p c core[n] n:=by rw [jh (n:=dnI T p c core[n] n - a) (by omega) (by omega),jh (by omega) (by omega)];omega
          by_cases hlt2:a - dnI T p c core[n] n<0
          · obtain ⟨r,r2,r1⟩:=take (fun _=>by omega)
            refine ⟨r,r2,fun X v hX=>Ev.step (fun k=>rfl) ?_⟩;simp only [fI.l0,fI.l0T,decide_eq_true_eq,c1,c2,if_true,rdL core n hlt,hh,Option.bind_some,hw];refine Ev.no (by simp [hz]) (Ev.bind aa (Ev.no (by simp [hok]) ?_));rw [w1,w2,w3];exact Ev.yes hlt2 (r1 (fun k=>X (k+1)) v (Ev.shift hX))
          · obtain ⟨r,r2,r1⟩:=ih (n+1) a ok (by omega) (by omega) i1 (fun e j hj hjn hne=>by
              rcases Nat.lt_or_ge j n with g | g
              · exact i2 e j hj g hne
              · have:j=n:=by omega
                subst this;omega) (fun e=>by rw [hok] at e;cases e)
            refine ⟨r,r2,fun X v hX=>Ev.step (fun k=>rfl) ?_⟩;simp only [fI.l0,fI.l0T,decide_eq_true_eq,c1,c2,if_true,rdL core n hlt,hh,Option.bind_some,hw];refine Ev.no (by simp [hz]) (Ev.bind aa (Ev.no (by simp [hok]) ?_));rw [w1,w2,w3];exact Ev.no hlt2 (r1 (fun k=>X (k+1)) v (Ev.shift hX))
        · obtain ⟨r,r2,r1⟩:=take (fun e=>absurd e hok)
          refine ⟨r,r2,fun X v hX=>Ev.step (fun k=>rfl) ?_⟩;simp only [fI.l0,fI.l0T,decide_eq_true_eq,c1,c2,if_true,rdL core n hlt,hh,Option.bind_some,hw];refine Ev.no (by simp [hz]) (Ev.bind aa (Ev.yes (by simpa using hok) ?_));rw [w1,w2];exact r1 (fun k=>X (k+1)) v (Ev.shift hX)
  exact loop _ 0 0 false rfl (by omega) (fun e=>by cases e) (fun e=>by cases e) (fun _=>⟨rfl,fun j hj hjn=>by omega⟩)
theorem abm (ho:odd.length≤6000):∀ (rest pre:List Gn),odd=pre++rest→∀ (m:List (Int × Int)),(∀ i,nP m i=sD pre i)→∃ m',(∀ i,nP m' i=sD odd i)∧∀ (X:Nat→List (Int × Int)→Option γ) (v:γ),Ev (fun k=>X k m') v →
    Ev (fun k=>fI.l2 (X k) odd (odd.length:Int) k (pre.length:Int) m) v:=by
  intro rest;induction rest with
  | nil =>
    intro pre hp m hm;refine ⟨m,fun i=>by rw [hm,hp,List.append_nil],fun X v hX=>Ev.step (fun k=>rfl) ?_⟩;have c1:¬ (pre.length:Int)<(odd.length:Int):=by rw [hp];simp
    simp only [fI.l2,fI.l2T,decide_eq_true_eq,c1,if_false];exact Ev.shift hX
  | cons g r ih =>
    intro pre hp m hm;have hlen:pre.length+1≤odd.length:=by rw [hp];simp
    have hrd:gG odd (pre.length:Int)=g:=by rw [hp];simp [gG]
    have c1:(pre.length:Int)<(odd.length:Int):=by omega
    have c2:(0:Int)≤(pre.length:Int):=by omega
    have hw:=nx c1 c2 (by omega);have hb:=xA pre g.f0;obtain ⟨m',h1,h2⟩:=ih (pre++[g]) (by rw [hp];simp) (sS m g.f0 (wq (nP m g.f0+1))) (fun i=>by
      rw [vY,hm,vZ,jh (by omega) (by omega),hm];by_cases e:g.f0=i
      · subst e;simp
      · simp [e])
    refine ⟨m',h1,fun X v hX=>Ev.step (fun k=>rfl) ?_⟩;have:=h2 (fun k=>X (k+1)) v (Ev.shift hX);rw [← len1] at this;simp only [fI.l2,fI.l2T,decide_eq_true_eq,c1,c2,if_true,hrd,hw];exact this
theorem uD (h:SF p c core odd) (t:TF p core) (T:Int) (hT:T≤1099511627777) (m:List (Int × Int)) (hm:∀ i,nP m i=sD odd i):∀ (d:Nat) (i:Int) (ok:Bool) (b:Int),
    (ok=true→(i+1099511627777).toNat≤d)→(ok=true→inR i∧iP c core i≠[]∧gLo p c core [] i≤T) →
    (∀ m,Ex p c core [] m→jJ odd m=none→gLo p c core [] m≤T→ok=true∧m≤i)→0≤b→b≤2 →
    (1≤b→ok=true→∀ m,m≤i→iP c core m≠[]→gHi p c core [] m≤1099511627776) →
    (2≤b→ok=true→∀ m,m≤i→iP c core m≠[]→gHi p c core [] m < -1099511627776) →
    ∃ r,PnD p c core odd T r∧∀ (X0:Nat→Int→Option γ) (X1:Nat→Option γ) (v:γ),Ev (fun k=>if r.2=true then X0 k r.1 else X1 k) v →
      Ev (fun k=>fI.l3 (X0 k) (X1 k) p c core m k i ok b) v:=by
  have cnt:∀ i,nP m i=0↔jJ odd i=none:=fun i=>by rw [hm,wm]
  have stop:∀ (i b:Int) (X0:Nat→Int→Option γ) (X1:Nat→Option γ) (v:γ),Ev (fun k=>if false=true then X0 k 0 else X1 k) v→Ev (fun k=>fI.l3 (X0 k) (X1 k) p c core m k i false b) v:=fun i b X0 X1 v hX=>by
    refine Ev.step (fun k=>rfl) ?_;simp only [fI.l3,fI.l3T,Bool.false_eq_true,if_false] at hX ⊢;exact Ev.shift hX
  intro d;induction d with
  | zero =>
    intro i ok b hd hA hB h0 h2 hC hD;have hok:ok=false:=by
      cases ok with
      | true=>have:=hA rfl;have:=this.1;unfold inR at this;have:=hd rfl;omega
      | false=>rfl
    subst hok;exact ⟨(0,false),⟨(fun e=>by cases e),fun _=>⟨rfl,fun m m1 m2 m3=>by cases (hB m m1 m2 m3).1⟩⟩,stop i b⟩
  | succ d ih =>
    intro i ok b hd hA hB h0 h2 hC hD;cases ok with
    | false=>exact ⟨(0,false),⟨(fun e=>by cases e),fun _=>⟨rfl,fun m m1 m2 m3=>by cases (hB m m1 m2 m3).1⟩⟩,stop i b⟩
    | true =>
      obtain ⟨a1,a2,a3⟩:=hA rfl;have hd:=hd rfl;by_cases hb:b<2
      · obtain ⟨n,n1,n2⟩:=oO h.lY i (by unfold inR at a1;omega)
        have aa:=ku h.lY i;have next:∀ (b':Int),0≤b'→b'≤2→(∀ m,Ex p c core [] m→jJ odd m=none→m≠i) →
            (1≤b'→∀ m,m<i→iP c core m≠[]→gHi p c core [] m≤1099511627776)→(2≤b'→∀ m,m<i→iP c core m≠[]→gHi p c core [] m < -1099511627776) →
            ∃ r,PnD p c core odd T r∧∀ (X0:Nat→Int→Option γ) (X1:Nat→Option γ) (v:γ),Ev (fun k=>if r.2=true then X0 k r.1 else X1 k) v →
              Ev (fun k=>fI.l3 (X0 k) (X1 k) p c core m k n.1 n.2 b') v:=by
          intro b' g0 g2 gi gC gD;unfold inR at a1;refine ih n.1 n.2 b' (fun e => ?_) (fun e => ?_) (fun m m1 m2 m3 => ?_) g0 g2 (fun e1 e2 m hm => ?_) (fun e1 e2 m hm => ?_)
          · have:=(n2.1 e).1;omega
          · obtain ⟨q1,q2,q3,q4⟩:=n2.1 e
            have:=vW h t (i:=n.1) (k:=i) (by omega) q3 a2;have:=aex h q3;exact ⟨q2,q3,by omega⟩
          · have g3:=(hB m m1 m2 m3).2
            have g4:=gi m m1 m2;have g5:=m1.r;cases hn:n.2 with
            | true =>
              refine ⟨rfl,Classical.byContradiction fun hx => ?_⟩;unfold inR at g5;exact m1.n ((n2.1 hn).2.2.2 m (by omega) (by omega))
            | false =>
              exact absurd ((n2.2 hn).2 m (by unfold inR at g5;omega) g5) m1.n
          · have:=(n2.1 e2).1;exact gC e1 m (by omega)
          · have:=(n2.1 e2).1;exact gD e1 m (by omega)
        by_cases hx:Ex p c core [] i
        · rw [h.lY.lu hx] at aa
          by_cases ho:jJ odd i=none
          · refine ⟨(i,true),⟨fun _=>⟨hx,ho,a3,fun m m1 m2 m3=>(hB m m1 m2 m3).2⟩,fun e=>by cases e⟩,fun X0 X1 v hX=>Ev.step (fun k=>rfl) ?_⟩
            simp only [fI.l3,fI.l3T,decide_eq_true_eq,hb,if_true];exact Ev.bind aa (Ev.no (by simp) (Ev.yes ((cnt i).2 ho) (by simpa using Ev.shift hX)))
          · obtain ⟨r,r2,r1⟩:=next b h0 h2 (fun m _ m2 e=>ho (by rw [← e];exact m2)) (fun e m hm=>hC e rfl m (by omega)) (fun e m hm=>hD e rfl m (by omega))
            refine ⟨r,r2,fun X0 X1 v hX=>Ev.step (fun k=>rfl) ?_⟩;simp only [fI.l3,fI.l3T,decide_eq_true_eq,hb,if_true];exact Ev.bind aa (Ev.no (by simp) (Ev.no (fun e=>ho ((cnt i).1 e)) (Ev.bind n1 (r1 (fun k=>X0 (k+1)) (fun k=>X1 (k+1)) v (Ev.shift hX)))))
        · rw [h.lY.ug a2 hx] at aa
          have hw:wq (b+1)=b+1:=jh (by omega) (by omega);obtain ⟨r,r2,r1⟩:=next (b+1) (by omega) (by omega) (fun m m1 _ e=>hx (by rw [← e];exact m1)) (fun _ m hm hmn=>by
              have:=vW h t hm hmn a2;omega) (fun e m hm hmn=>by
              have q1:=vW h t hm hmn a2;have q2:=hC (by omega) rfl i (Int.le_refl _) a2;refine Classical.byContradiction fun hq=>hx ⟨a1,a2,?_,q2⟩;omega)
          refine ⟨r,r2,fun X0 X1 v hX=>Ev.step (fun k=>rfl) ?_⟩;simp only [fI.l3,fI.l3T,decide_eq_true_eq,hb,if_true,hw];exact Ev.bind aa (Ev.yes (by simp) (Ev.bind n1 (r1 (fun k=>X0 (k+1)) (fun k=>X1 (k+1)) v (Ev.shift hX))))
      · refine ⟨(0,false),⟨(fun e=>by cases e),fun _=>⟨rfl,fun m m1 m2 m3 => ?_⟩⟩,fun X0 X1 v hX=>Ev.step (fun k=>rfl) ?_⟩
        · have q1:=hD (by omega) rfl m (hB m m1 m2 m3).2 m1.n
          have q2:=aex h m1.n;have:=m1.lo;omega
        · simp only [fI.l3,fI.l3T,decide_eq_true_eq,hb,if_true,if_false]
          exact Ev.shift hX
theorem qZ (h:SF p c core odd) (T:Int):∀ (d n:Nat) (a:Int) (ok:Bool),odd.length - n=d→n≤odd.length →
    (ok=true→Ex p c core odd a∧gLo p c core odd a≤T)→(∀ m,Ex p c core odd m→gLo p c core odd m≤T→(jJ odd m=none∨∃ j,∃ hj:j<odd.length,j<n∧odd[j].f0=m)→ok=true∧m≤a)→(ok=false→a=0) →
    ∃ r,Ev (fun k=>fI.l1 (fun y z=>some (y,z)) T odd (odd.length:Int) k a ok (n:Int)) r∧TlD p c core odd T r:=by
  have hlo:=h.hlo;intro d;induction d with
  | zero =>
    intro n a ok hd hn i1 i2 i3;have c1:¬ (n:Int)<(odd.length:Int):=by omega
    refine ⟨(a,ok),Ev.step (f:=fun _=>some (a,ok)) (fun k=>by simp only [fI.l1,fI.l1T,decide_eq_true_eq,c1,if_false]) (Ev.now _),?_⟩;have all:∀ m,jJ odd m=none∨∃ j,∃ hj:j<odd.length,j<n∧odd[j].f0=m:=fun m=>by
      rcases ac6 (odd:=odd) (m:=m) with g | ⟨j,hj,g⟩
      · exact .inl g
      · exact .inr ⟨j,hj,by omega,g⟩
    cases ok with
    | true=>exact ⟨fun _=>⟨(i1 rfl).1,(i1 rfl).2,fun m m1 m2=>(i2 m m1 m2 (all m)).2⟩,fun e=>by cases e⟩
    | false=>exact ⟨(fun e=>by cases e),fun _=>⟨i3 rfl,fun m m1 m2=>by cases (i2 m m1 m2 (all m)).1⟩⟩
  | succ d ih =>
    intro n a ok hd hn i1 i2 i3;have hlt:n<odd.length:=by omega
    have hw:wq ((n:Int)+1)=((n+1:Nat):Int):=by rw [jh (by omega) (by omega)];simp
    have c1:(n:Int)<(odd.length:Int):=by omega
    have c2:(0:Int)≤(n:Int):=by omega
    have aa:=h.hodd _ (List.getElem_mem hlt);have hh:=fun k=>uy k aa;obtain ⟨e1,e2,e3⟩:=aa7 h hlt;have skip:(odd[n].f1=[]∨¬ kV odd[n].f1≤T∨ok=true∧odd[n].f0≤a)→∃ r,Ev (fun k=>fI.l1 (fun y z=>some (y,z)) T odd (odd.length:Int) k a ok ((n+1:Nat):Int)) r∧TlD p c core odd T r:=fun hs=>by
      refine ih (n+1) a ok (by omega) (by omega) i1 (fun m m1 m2 m3 => ?_) i3;rcases m3 with g | ⟨j,hj,g,g2⟩
      · exact i2 m m1 m2 (.inl g)
      · rcases Nat.lt_or_ge j n with g3 | g3
        · exact i2 m m1 m2 (.inr ⟨j,hj,g3,g2⟩)
        · have:j=n:=by omega
          subst this;subst g2;rcases hs with hs | hs | hs
          · exact absurd (by rw [e1];exact hs) m1.n
          · exact absurd (by rw [← e2];exact m2) hs
          · exact hs
    by_cases hz:odd[n].f1=[]
    · obtain ⟨r,r1,r2⟩:=skip (.inl hz)
      refine ⟨r,Ev.step (fun k=>rfl) ?_,r2⟩;have hh':∀ k,iA.f k odd[n].f1=some (⟨0,0⟩,false):=fun k=>by rw [hh k];simp [hz]
      simp only [fI.l1,fI.l1T,decide_eq_true_eq,c1,c2,if_true,rdG odd n hlt,hh',Option.bind_some,hw];exact Ev.no (by simp) r1
    · have hh':∀ k,iA.f k odd[n].f1=some (⟨kV odd[n].f1,lH odd[n].f1⟩,true):=fun k=>by rw [hh k];simp [hz]
      by_cases hso:kV odd[n].f1≤T
      · have take:(ok=true→a≤odd[n].f0)→∃ r,Ev (fun k=>fI.l1 (fun y z=>some (y,z)) T odd (odd.length:Int) k odd[n].f0 true ((n+1:Nat):Int)) r∧TlD p c core odd T r:=fun hle=>by
          refine ih (n+1) odd[n].f0 true (by omega) (by omega) (fun _=>⟨ac5 h hlt hz,by rw [e2];exact hso⟩) (fun m m1 m2 m3=>⟨rfl,?_⟩) (fun e=>by cases e);rcases m3 with g | ⟨j,hj,g,g2⟩
          · obtain ⟨q1,q2⟩:=i2 m m1 m2 (.inl g);have:=hle q1;omega
          · rcases Nat.lt_or_ge j n with g3 | g3
            · obtain ⟨q1,q2⟩:=i2 m m1 m2 (.inr ⟨j,hj,g3,g2⟩);have:=hle q1;omega
            · have:j=n:=by omega
              subst this;subst g2;exact Int.le_refl _
        by_cases hok:ok=true
        · have hr1:=(i1 hok).1.r
          have hr2:=h.hidx _ (List.getElem_mem hlt);unfold inR at hr1 hr2;have w3:wq (wq (odd[n].f0 - a)*(-1))=a - odd[n].f0:=by rw [jh (n:=odd[n].f0 - a) (by omega) (by omega),jh (by omega) (by omega)];omega
          by_cases hlt2:a - odd[n].f0<0
          · obtain ⟨r,r1,r2⟩:=take (fun _=>by omega)
            refine ⟨r,Ev.step (fun k=>rfl) ?_,r2⟩;simp only [fI.l1,fI.l1T,jd.f,decide_eq_true_eq,c1,c2,if_true,rdG odd n hlt,hh',Option.bind_some,hw,w3];exact Ev.yes hso (Ev.no (by simp [hok]) (Ev.yes hlt2 r1))
          · obtain ⟨r,r1,r2⟩:=skip (.inr (.inr ⟨hok,by omega⟩))
            refine ⟨r,Ev.step (fun k=>rfl) ?_,r2⟩;simp only [fI.l1,fI.l1T,jd.f,decide_eq_true_eq,c1,c2,if_true,if_false,rdG odd n hlt,hh',Option.bind_some,hw,w3];exact Ev.yes hso (Ev.no (by simp [hok]) (Ev.no hlt2 r1))
        · obtain ⟨r,r1,r2⟩:=take (fun e=>absurd e hok)
          refine ⟨r,Ev.step (fun k=>rfl) ?_,r2⟩;simp only [fI.l1,fI.l1T,jd.f,decide_eq_true_eq,c1,c2,if_true,rdG odd n hlt,hh',Option.bind_some,hw];exact Ev.yes hso (Ev.yes (by simpa using hok) r1)
      · obtain ⟨r,r1,r2⟩:=skip (.inr (.inl hso))
        refine ⟨r,Ev.step (fun k=>rfl) ?_,r2⟩;simp only [fI.l1,fI.l1T,jd.f,decide_eq_true_eq,c1,c2,if_true,rdG odd n hlt,hh',Option.bind_some,hw];exact Ev.no hso r1
theorem aeg (h:FOK p c core odd) (t:Int):∃ r,Ev (fun k=>fI.f k p c core odd t) r∧TlD p c core odd t r:=by
  have hcl:=afg t;have hmm:mx (mn t 1099511627777) (-1099511627777)=cl t:=rfl;have near:∀ a:Int × Bool,PnD p c core odd (cl t) a→∃ r,Ev (fun k=>fI.l1 (fun y z=>some (y,z)) (cl t) odd (odd.length:Int) k a.1 a.2 ((0:Nat):Int)) r∧TlD p c core odd (cl t) r:=fun a a2 =>
    qZ h.s (cl t) _ 0 a.1 a.2 rfl (by omega) (fun e=>by
      obtain ⟨q1,q2,q3,q4⟩:=a2.y e;exact ⟨(pI q2).2 q1,by rw [(qX q2).2.1];exact q3⟩) (fun m m1 m2 m3=>by
      rcases m3 with g | ⟨j,hj,g,_⟩
      · have aa:=m2
        rw [(qX g).2.1] at aa;cases ha:a.2 with
        | true=>exact ⟨rfl,(a2.y ha).2.2.2 m ((pI g).1 m1) g aa⟩
        | false=>exact absurd aa ((a2.n ha).2 m ((pI g).1 m1) g)
      · omega) (fun e=>(a2.n e).1)
  have tr:∀ m,Ex p c core odd m→(gLo p c core odd m≤t↔gLo p c core odd m≤cl t):=fun m e=>by
    have:=e.lo;have:=e.hi;have:=h.s.l6 e.n;omega
  have fin:∀ r,TlD p c core odd (cl t) r→TlD p c core odd t r:=fun r r2=>⟨fun e=>by
    obtain ⟨q1,q2,q3⟩:=r2.y e;exact ⟨q1,(tr _ q1).2 q2,fun m m1 m2=>q3 m m1 ((tr m m1).1 m2)⟩,fun e=>⟨(r2.n e).1,fun m m1 m2=>(r2.n e).2 m m1 ((tr m m1).1 m2)⟩⟩
  simp only [fI.f,hmm];obtain ⟨a,a2,a1⟩:=acN (γ:=Int × Bool) h.s (cl t) (by omega);have hf:Ev (fun k=>jX.f k) ():=Ev.congr (f:=fun _=>some ()) (fun k=>rfl) (Ev.now _);have b1:=a2.lo;have b2:=a2.hi;cases ha:a.2 with
  | false =>
    obtain ⟨r,r1,r2⟩:=near (0,false) ⟨(fun e=>by cases e),fun _=>⟨rfl,fun m m1 _ _=>m1.n (a2.n ha m)⟩⟩;exact ⟨r,Ev.bind hf (a1 _ r (Ev.yes (by simp [ha]) r1)),fin r r2⟩
  | true =>
    obtain ⟨q1,q2,q3⟩:=a2.y ha;have hw:wq (a.1 - (-1))=a.1+1:=by rw [jh (by omega) (by omega)];omega
    obtain ⟨n,n1,n2⟩:=oO h.s.lY (a.1+1) (by omega);obtain ⟨m,m1,m2⟩:=abm (γ:=Int × Bool) (odd:=odd) h.s.hlo odd [] rfl [] (fun i=>by simp [nP,sD]);obtain ⟨s,s2,s1⟩:=uD (γ:=Int × Bool) h.s h.t (cl t) (by omega) m m1 (n.1+1099511627777).toNat n.1 n.2 0 (fun _=>Nat.le_refl _) (fun e=>by
      obtain ⟨g1,g2,g3,g4⟩:=n2.1 e;refine ⟨g2,g3,?_⟩;rcases Int.lt_trichotomy a.1 n.1 with g | g | g
      · omega
      · rw [← g];exact q2
      · have:=vW h.s h.t g g3 q1
        have:=aex h.s g3;omega) (fun m m1 m2 m3=>by
      have g3:=q3 m m1.n m3;have g5:=m1.r;cases hn:n.2 with
      | true =>
        refine ⟨rfl,Classical.byContradiction fun hx => ?_⟩;unfold inR at g5;exact m1.n ((n2.1 hn).2.2.2 m (by omega) (by omega))
      | false=>exact absurd ((n2.2 hn).2 m (by unfold inR at g5;omega) g5) m1.n) (by omega) (by omega) (fun e=>by omega) (fun e=>by omega)
    obtain ⟨r,r1,r2⟩:=near s s2;refine ⟨r,Ev.bind hf (a1 _ r (Ev.no (by simp [ha]) (m2 _ r ?_))),fin r r2⟩;simp only [hw];refine Ev.bind n1 (s1 (fun k y=>fI.l1 (fun y z=>some (y,z)) (cl t) odd (odd.length:Int) k y true 0) (fun k=>fI.l1 (fun y z=>some (y,z)) (cl t) odd (odd.length:Int) k 0 false 0) r ?_);cases hs:s.2 with
    | true=>rw [hs] at r1;simpa using r1
    | false=>rw [hs,(s2.n hs).1] at r1;simpa using r1
end Go.Proofs.YtongeknogcboiaaGreat.Q
namespace Go.Proofs.YtongeknogcboiaaGreat.Q
set_option linter.unusedVariables false
set_option linter.unusedSimpArgs false
open Go.RowKit Go.Proofs.YtongeknogcboiaaGreatW.fK Go.Proofs.YtongeknogcboiaaGreatW.iE M R P
section
variable {p c:Int} {core:List (List Sp)} {odd:List Gn}
def thV (p c:Int) (core:List (List Sp)) (odd:List Gn) (i:Int):List Sp:=(lJ p c core odd i).1
theorem sF (h:FOK p c core odd) {i j k:Int} (hi:Ex p c core odd i) (hk:Ex p c core odd k) (h1:i≤j) (h2:j≤k) (hr:inR j) (hn:fs c core odd j≠[]):Ex p c core odd j:=by
  rcases Int.lt_or_le i j with g | g
  · rcases Int.lt_or_le j k with q | q
    · have a:=h.ord i j g hi.r hr hi.n hn
      have b:=h.ord j k q hr hk.r hn hk.n;have:=hi.lo;have:=hk.hi;have:=h.s.l6 hi.n;have:=h.s.l6 hk.n;exact ⟨hr,hn,by omega,by omega⟩
    · have:j=k:=by omega
      rw [this];exact hk
  · have:j=i:=by omega
    rw [this];exact hi
theorem lC (h:SF p c core odd) (i:Int):(Ex p c core odd i∧lJ p c core odd i=(gT p c core odd i,0)∧gT p c core odd i≠[])∨(¬ Ex p c core odd i∧(lJ p c core odd i).1=[]):=by
  by_cases e:Ex p c core odd i
  · exact .inl ⟨e,h.lu e,(mO e.n).1⟩
  · refine .inr ⟨e,?_⟩
    by_cases hn:fs c core odd i=[]
    · unfold lJ;split
      · simp [hn]
      · rfl
    · rw [h.ug hn e]
theorem zO (k:Nat):@fZ.f wtT (k+100)=some true:=by kernel_rfl
end
variable [Inhabited WT]
variable {p c:Int} {core:List (List Sp)} {odd:List Gn}
theorem lG (h:SF p c core odd) (i:Int):Ev (fun k=>iO.f k p c core odd i) (thV p c core odd i):=by
  unfold iO.f;exact Ev.bind (ku h i) (Ev.now _)
theorem nL:Ev (fun k=>fZ.f k) true:=⟨100,fun k hk=>by
  obtain ⟨j,rfl⟩:=Nat.exists_eq_add_of_le' hk;rename_i i;rw [aeJ i wtT];exact zO j⟩
end Go.Proofs.YtongeknogcboiaaGreat.Q
namespace Go.Proofs.YtongeknogcboiaaGreat.Q
set_option linter.unusedVariables false
set_option linter.unusedSimpArgs false
open Go.RowKit Go.Proofs.YtongeknogcboiaaGreatW.fK Go.Proofs.YtongeknogcboiaaGreatW.iE M R P
section
theorem abn (k:Nat) (a b x:Int):jg.f k a b x=some (if b<x then -1 else if a>x then 1 else 0):=by
  simp only [jg.f,decide_eq_true_eq];split
  · rfl
  · split <;> rfl
end
variable [Inhabited WT]
theorem afm (k:Nat) (l:List Sp) (i:Bool) (t:Int):iN.f k l i t=some (jK l i t):=by
  cases l with
  | nil=>cases i <;> simp [iN.f,jK]
  | cons s r =>
    have c0:(((s :: r).length:Int)>0):=by simp
    have c1:(0:Int)<((s :: r).length:Int):=by simp
    have c2:(1:Int)≤((s :: r).length:Int):=by simp;omega
    have hg:gS (s :: r) 0=s:=rfl;simp only [iN.f,decide_eq_true_eq,c0,c1,c2,if_true,hg,sQ,List.drop_one,List.tail_cons];cases i with
    | true=>simp only [jK,if_true];split <;> simp
    | false=>simp only [jK];simp;split <;> rfl
theorem yQ (k:Nat) (l:List Sp) (i:Bool) (h:l≠[]):gZ.f k l i=some (oQ l i):=by
  cases l with
  | nil=>exact absurd rfl h
  | cons s r =>
    have c1:(0:Int)<((s :: r).length:Int):=by simp
    have hg:gS (s :: r) 0=s:=rfl;simp only [gZ.f,c1,if_true,hg,sQ];cases i <;> simp [oQ]
def YY {γ:Type} (yes:Bool→Bool→Bool) (t:Int) (a b:Bool) (out:List Sp) (inn:Bool) (fr:Int) (x y:List Sp) (x0:List Sp→Bool→Int→List Sp→List Sp→Option γ):Option γ :=
  if yes a b=true then (if (!inn)=true then x0 out (yes a b) t x y else (if (!yes a b)=true then (if inn=true then (if out.length+1≤8796093022208 then x0 (out++[⟨fr,wq (t - 1)⟩]) (yes a b) fr x y else none) else x0 out (yes a b) fr x y) else x0 out (yes a b) fr x y))
  else (if (!yes a b)=true then (if inn=true then (if out.length+1≤8796093022208 then x0 (out++[⟨fr,wq (t - 1)⟩]) (yes a b) fr x y else none) else x0 out (yes a b) fr x y) else x0 out (yes a b) fr x y)
theorem xC {γ:Type} (yes:Bool→Bool→Bool) (t:Int) (a b:Bool) (s:Kst) (x y:List Sp) (x0:List Sp→Bool→Int→List Sp→List Sp→Option γ) (h:s.out.length+1≤8796093022208) :
    YY yes t a b s.out s.inn s.from_ x y x0=x0 (lS yes s ⟨t,a,b⟩).out (lS yes s ⟨t,a,b⟩).inn (lS yes s ⟨t,a,b⟩).from_ x y:=by
  unfold YY lS;simp only [sQ,h,if_true];cases yes a b <;> cases s.inn <;> simp
theorem abo (yes:Bool→Bool→Bool):∀ (n:Nat) (a:List Sp) (ia:Bool) (b:List Sp) (ib:Bool) (s:Kst),msr a ia+msr b ib≤n→s.out.length+n≤1000000000→a.length+b.length≤1000000000 →
    Ev (fun k=>gH.l0 (YY yes) (fun y _ _ _ _=>some y) k ia ib s.out s.inn s.from_ a b) ((pX a ia b ib).foldl (lS yes) s).out:=by
  intro n;induction n with
  | zero =>
    intro a ia b ib s hn hs hl;have e:a=[]∧b=[]:=Classical.byContradiction fun e=>by have:=qy a ia b ib e;omega
    obtain ⟨rfl,rfl⟩:=e;rw [oC];refine Ev.step (f:=fun _=>some s.out) (fun k => ?_) (Ev.now _);have:¬ (wq 0>0):=by rw [jh (by omega) (by omega)];omega
    simp [gH.l0,gH.l0T,this]
  | succ n ih =>
    intro a ia b ib s hn hs hl;by_cases e:a=[]∧b=[]
    · obtain ⟨rfl,rfl⟩:=e
      rw [oC];refine Ev.step (f:=fun _=>some s.out) (fun k => ?_) (Ev.now _);have:¬ (wq 0>0):=by rw [jh (by omega) (by omega)];omega
      simp [gH.l0,gH.l0T,this]
    · have hlt:=qy a ia b ib e
      have hla:∀ (l:List Sp) (i:Bool) (t:Int),(jK l i t).1.length≤l.length:=fun l i t=>by
        match l,i with
        | [],i=>simp [jK]
        | s :: r,true=>simp only [jK];split <;> simp
        | s :: r,false=>simp only [jK];split <;> simp
      rw [rM a ia b ib e,List.foldl_cons];have hk:=aag yes s ⟨atL a ia b ib,(jK a ia (atL a ia b ib)).2,(jK b ib (atL a ia b ib)).2⟩;have q:=ih (jK a ia (atL a ia b ib)).1 (jK a ia (atL a ia b ib)).2 (jK b ib (atL a ia b ib)).1 (jK b ib (atL a ia b ib)).2 (lS yes s ⟨atL a ia b ib,(jK a ia (atL a ia b ib)).2,(jK b ib (atL a ia b ib)).2⟩) (by omega) (by omega) (by have:=hla a ia (atL a ia b ib);have:=hla b ib (atL a ia b ib);omega);refine Ev.step (fun k=>rfl) ?_;have hw:wq ((a.length:Int)+(b.length:Int))>0:=by
        rw [jh (by omega) (by omega)];have:0<a.length+b.length:=Nat.pos_of_ne_zero fun h0=>e ⟨List.eq_nil_of_length_eq_zero (by omega),List.eq_nil_of_length_eq_zero (by omega)⟩;omega
      have hs1:s.out.length+1≤8796093022208:=by omega
      simp only [gH.l0,gH.l0T,decide_eq_true_eq,hw,if_true,afm,Option.bind_some];by_cases ha:a=[]
      · have hb:b≠[]:=fun h=>e ⟨ha,h⟩
        have hat:atL a ia b ib=oQ b ib:=by unfold atL;rw [if_pos ha]
        refine Ev.yes (by rw [ha];rfl) ?_;simp only [yQ _ b ib hb,Option.bind_some,xC yes _ _ _ s _ _ _ hs1];rw [← hat];exact q
      · have ha':¬ (a.length:Int)=0:=fun h=>ha (List.eq_nil_of_length_eq_zero (by omega))
        refine Ev.no ha' ?_;by_cases hb:b=[]
        · have hat:atL a ia b ib=oQ a ia:=by unfold atL;rw [if_neg ha,if_pos hb]
          refine Ev.yes (by rw [hb];rfl) ?_;simp only [yQ _ a ia ha,Option.bind_some,xC yes _ _ _ s _ _ _ hs1];rw [← hat];exact q
        · have hb':¬ (b.length:Int)=0:=fun h=>hb (List.eq_nil_of_length_eq_zero (by omega))
          have hat:atL a ia b ib=mn (oQ a ia) (oQ b ib):=by unfold atL;rw [if_neg ha,if_neg hb,aea]
          refine Ev.no hb' ?_;simp only [yQ _ a ia ha,yQ _ b ib hb,Option.bind_some,xC yes _ _ _ s _ _ _ hs1];rw [← hat];exact q
theorem abp (yes:Bool→Bool→Bool) (a b:List Sp) (h:a.length+b.length≤1000000):Ev (fun k=>gH.l0 (YY yes) (fun y _ _ _ _=>some y) k false false [] false 0 a b) (nW yes a b) :=
  abo yes _ a false b false ⟨false,0,[]⟩ (Nat.le_refl _) (by unfold msr;simp;omega) (by omega)
theorem aeh (a b:List Sp) (h:a.length+b.length≤1000000):Ev (fun k=>gH.f k a b) (nW (fun a b=>a && !b) a b):=by
  refine Ev.congr (fun k => ?_) (abp (fun a b=>a && !b) a b h);have:∀ x y,ji.f k x y=some (x && !y):=fun x y=>by cases x <;> rfl
  simp only [gH.f,this,Option.bind_some];rfl
theorem acO {γ:Type} (Y:Int→Bool→Bool→List Sp→Bool→Int→List Sp→List Sp→(List Sp→Bool→Int→List Sp→List Sp→Option γ)→Option γ) (X:List Sp→Bool→Int→List Sp→List Sp→Option γ) (k:Nat):gU.l0 Y X k=gH.l0 Y X k:=by kernel_rfl
theorem afn (a b:List Sp) (h:a.length+b.length≤1000000):Ev (fun k=>gU.f k a b) (nW (fun a b=>a&&b) a b):=by
  refine Ev.congr (fun k => ?_) (abp (fun a b=>a&&b) a b h);have:∀ x y,jC.f k x y=some (x&&y):=fun x y=>by cases x <;> rfl
  simp only [gU.f,this,Option.bind_some,acO];rfl
theorem oP (a b:List Sp) (h:a.length+b.length≤1000000):Ev (fun k=>iB.f k a b) (decide (nW (fun a b=>a && !b) a b=[])):=by
  unfold iB.f;refine Ev.bind (aeh a b h) ?_;cases nW (fun a b=>a && !b) a b with
  | nil=>exact Ev.now _
  | cons x r=>exact Ev.congr (f:=fun _=>some (decide (x :: r=[]))) (fun k=>by simp;omega) (Ev.now _)
theorem aei (a b:List Sp) (h:a.length+b.length≤1000000):Ev (fun k=>jf.f k a b) (decide (nW (fun a b=>a&&b) a b≠[])):=by
  unfold jf.f;refine Ev.bind (afn a b h) ?_;cases nW (fun a b=>a&&b) a b with
  | nil=>exact Ev.now _
  | cons x r=>exact Ev.congr (f:=fun _=>some (decide (x :: r≠[]))) (fun k=>by simp) (Ev.now _)
theorem afo {lb ub:Int} (l:List Sp) (x:Int) (hs:SL lb ub l) (hn:l.length≤4611686018427387903):Ev (fun k=>gV.f k l x) (lF l x):=by
  simp only [gV.f,abn,Option.bind_some,decide_eq_true_eq];have key:∀ (d lo hi:Nat),hi - lo=d→lo≤hi→hi≤l.length→(∀ j (hj:j<l.length),j<lo→l[j].f1<x)→(∀ j (hj:j<l.length),hi≤j→x≤l[j].f1) →
      Ev (fun k=>gV.l0 (fun y=>if y<(l.length:Int) then if 0≤y then if y<(l.length:Int) then if (if (gS l y).f1<x then (-1:Int) else if (gS l y).f0>x then 1 else 0)=0 then some (decide (y<(l.length:Int))) else some false else none else none else some false) l x k (lo:Int) (hi:Int)) (lF l x):=by
    intro d;induction d using Nat.strongRecOn with
    | ind d ih =>
      intro lo hi hd hle hhn hlow hhigh;by_cases hlt:lo<hi
      · have c1:(lo:Int)<(hi:Int):=by omega
        have hm:=aaY lo hi (by omega) hle;have hmid:(lo+hi) / 2<l.length:=by omega
        have hrd:=agn l ((lo+hi) / 2) hmid;have c2:(0:Int)≤(((lo+hi) / 2:Nat):Int):=by omega
        have c3:(((lo+hi) / 2:Nat):Int)<(l.length:Int):=by omega
        have hw:wq ((((lo+hi) / 2:Nat):Int)+1)=(((lo+hi) / 2+1:Nat):Int):=by rw [jh (by omega) (by omega)];simp
        refine Ev.step (fun k=>rfl) ?_;by_cases t:l[(lo+hi) / 2].f1<x
        · have r1:=ih (hi - ((lo+hi) / 2+1)) (by omega) ((lo+hi) / 2+1) hi rfl (by omega) hhn (fun j hj h=>by
            rcases Nat.lt_or_ge j ((lo+hi) / 2) with g | g
            · have:=SL.rise hs j _ hmid g
              have:=(SL.get hs _ hmid).2.1;omega
            · have:j=(lo+hi) / 2:=by omega
              subst this;exact t) hhigh
          simp only [gV.l0,gV.l0T,decide_eq_true_eq,c1,hm,c2,c3,hrd,abn,t,Option.bind_some,hw,if_true];exact Ev.yes (by omega) r1
        · have r1:=ih ((lo+hi) / 2 - lo) (by omega) lo ((lo+hi) / 2) rfl (by omega) (by omega) hlow (fun j hj h=>by
            rcases Nat.lt_or_ge ((lo+hi) / 2) j with g | g
            · have:=SL.rise hs _ j hj g
              have:=(SL.get hs _ hj).2.1;omega
            · have:j=(lo+hi) / 2:=by omega
              subst this;omega)
          have hneg:¬ (if l[(lo+hi) / 2].f1<x then (-1:Int) else if l[(lo+hi) / 2].f0>x then 1 else 0)<0:=by rw [if_neg t];split <;> omega
          simp only [gV.l0,gV.l0T,decide_eq_true_eq,c1,hm,c2,c3,hrd,abn,Option.bind_some,hneg,if_true,if_false];exact r1
      · have he:lo=hi:=by omega
        subst he;have c1:¬ (lo:Int)<(lo:Int):=by omega
        refine Ev.step (f:=fun _=>some (lF l x)) (fun k => ?_) (Ev.now _);by_cases hlast:lo<l.length
        · have hx:=hhigh lo hlast (by omega)
          have c2:(lo:Int)<(l.length:Int):=by omega
          have c3:(0:Int)≤(lo:Int):=by omega
          have c4:¬ l[lo].f1<x:=by omega
          have hh:lF l x=decide (¬ l[lo].f0>x):=by
            rw [Bool.eq_iff_iff];simp only [decide_eq_true_eq,ni];constructor
            · rintro ⟨s,hmem,h1,h2⟩
              obtain ⟨j,hj,rfl⟩:=List.getElem_of_mem hmem;rcases Nat.lt_or_ge j lo with g | g
              · have:=hlow j hj g;omega
              · rcases Nat.lt_or_ge lo j with g2 | g2
                · have:=SL.rise hs _ j hj g2
                  have:=(SL.get hs _ hlast).2.1;omega
                · have:j=lo:=by omega
                  subst this;omega
            · intro h
              exact ⟨l[lo],List.getElem_mem hlast,by omega,hx⟩
          simp only [gV.l0,gV.l0T,decide_eq_true_eq,c1,c2,c3,agn l lo hlast,c4,if_true,if_false,hh];by_cases g:l[lo].f0>x <;> simp [g]
        · have hl:lo=l.length:=by omega
          have c2:¬ (lo:Int)<(l.length:Int):=by omega
          have hh:lF l x=false:=by
            rw [Bool.eq_false_iff];intro h;obtain ⟨s,hmem,h1,h2⟩:=ni.1 h;obtain ⟨j,hj,rfl⟩:=List.getElem_of_mem hmem;have:=hlow j hj (by omega);omega
          simp only [gV.l0,gV.l0T,decide_eq_true_eq,c1,c2,if_false,hh]
  exact key _ 0 l.length rfl (by omega) (by omega) (by intro j _ h;omega) (by intro j hj h;omega)
end Go.Proofs.YtongeknogcboiaaGreat.Q
namespace Go.Proofs.YtongeknogcboiaaGreat.Q
set_option linter.unusedVariables false
set_option linter.unusedSimpArgs false
open Go.RowKit Go.Proofs.YtongeknogcboiaaGreatW.fK Go.Proofs.YtongeknogcboiaaGreatW.iE M R P
section
variable {α β:Type}
def Ev2 (g:Nat→Nat→Option α) (r:α):Prop:=∃ K,∀ k m,K≤k→K≤m→g k m=some r
theorem Ev2.diag {g:Nat→Nat→Option α} {r:α} (h:Ev2 g r):Ev (fun k=>g k k) r:=let ⟨K,h⟩:=h;⟨K,fun k hk=>h k k hk hk⟩
theorem Ev2.right {g:Nat→Option α} {r:α} (h:Ev g r):Ev2 (fun _ m=>g m) r:=let ⟨K,h⟩:=h;⟨K,fun _ m _ hm=>h m hm⟩
theorem Ev2.oo {g:Nat→Option α} {f:Nat→Nat→α→Option β} {a:α} {r:β} (h:Ev g a) (k:Ev2 (fun n m=>f n m a) r):Ev2 (fun n m=>(g n).bind (f n m)) r:=by
  obtain ⟨K,h⟩:=h;obtain ⟨J,k⟩:=k;exact ⟨max K J,fun n m hn hm=>by show (g n).bind (f n m)=some r;rw [h n (by omega),Option.bind_some];exact k n m (by omega) (by omega)⟩
theorem Ev2.afp {g:Nat→Option α} {f:Nat→Nat→α→Option β} {a:α} {r:β} (h:Ev g a) (k:Ev2 (fun n m=>f n m a) r):Ev2 (fun n m=>(g m).bind (f n m)) r:=by
  obtain ⟨K,h⟩:=h;obtain ⟨J,k⟩:=k;exact ⟨max K J,fun n m hn hm=>by show (g m).bind (f n m)=some r;rw [h m (by omega),Option.bind_some];exact k n m (by omega) (by omega)⟩
theorem Ev2.step {g f:Nat→Nat→Option α} {r:α} (h:∀ k m,g (k+1) m=f k m) (k:Ev2 f r):Ev2 g r:=by
  obtain ⟨K,k⟩:=k;refine ⟨K+1,fun n m hn hm => ?_⟩;obtain ⟨j,rfl⟩:∃ j,n=j+1:=⟨n - 1,by omega⟩;rw [h];exact k j m (by omega) (by omega)
theorem Ev2.yes {c:Prop} [Decidable c] {g f:Nat→Nat→Option α} {r:α} (h:c) (k:Ev2 g r):Ev2 (fun n m=>if c then g n m else f n m) r:=let ⟨K,k⟩:=k;⟨K,fun n m hn hm=>(if_pos h).trans (k n m hn hm)⟩
theorem Ev2.no {c:Prop} [Decidable c] {g f:Nat→Nat→Option α} {r:α} (h:¬ c) (k:Ev2 f r):Ev2 (fun n m=>if c then g n m else f n m) r:=let ⟨K,k⟩:=k;⟨K,fun n m hn hm=>(if_neg h).trans (k n m hn hm)⟩
theorem Ev2.of {g:Nat→Option α} {r:α} (h:Ev g r):Ev2 (fun n _=>g n) r:=let ⟨K,h⟩:=h;⟨K,fun n _ hn _=>h n hn⟩
def Ev3 (g:Nat→Nat→Nat→Option α) (r:α):Prop:=∃ K,∀ k a m,K≤k→K≤a→K≤m→g k a m=some r
theorem Ev3.two {g:Nat→Nat→Nat→Option α} {r:α} (h:Ev3 g r):Ev2 (fun k m=>g k k m) r:=let ⟨K,h⟩:=h;⟨K,fun k m hk hm=>h k k m hk hk hm⟩
theorem Ev3.right {g:Nat→Nat→Option α} {r:α} (h:Ev2 g r):Ev3 (fun _ a m=>g a m) r:=let ⟨K,h⟩:=h;⟨K,fun _ a m _ ha hm=>h a m ha hm⟩
theorem Ev3.oo {g:Nat→Option α} {f:Nat→Nat→Nat→α→Option β} {x:α} {r:β} (h:Ev g x) (k:Ev3 (fun n a m=>f n a m x) r):Ev3 (fun n a m=>(g n).bind (f n a m)) r:=by
  obtain ⟨K,h⟩:=h;obtain ⟨J,k⟩:=k;exact ⟨max K J,fun n a m hn ha hm=>by show (g n).bind (f n a m)=some r;rw [h n (by omega),Option.bind_some];exact k n a m (by omega) (by omega) (by omega)⟩
theorem Ev3.acP {g:Nat→Option α} {f:Nat→Nat→Nat→α→Option β} {x:α} {r:β} (h:Ev g x) (k:Ev3 (fun n a m=>f n a m x) r):Ev3 (fun n a m=>(g a).bind (f n a m)) r:=by
  obtain ⟨K,h⟩:=h;obtain ⟨J,k⟩:=k;exact ⟨max K J,fun n a m hn ha hm=>by show (g a).bind (f n a m)=some r;rw [h a (by omega),Option.bind_some];exact k n a m (by omega) (by omega) (by omega)⟩
theorem Ev3.step {g f:Nat→Nat→Nat→Option α} {r:α} (h:∀ k a m,g (k+1) a m=f k a m) (k:Ev3 f r):Ev3 g r:=by
  obtain ⟨K,k⟩:=k;refine ⟨K+1,fun n a m hn ha hm => ?_⟩;obtain ⟨j,rfl⟩:∃ j,n=j+1:=⟨n - 1,by omega⟩;rw [h];exact k j a m (by omega) (by omega) (by omega)
theorem Ev3.yes {c:Prop} [Decidable c] {g f:Nat→Nat→Nat→Option α} {r:α} (h:c) (k:Ev3 g r):Ev3 (fun n a m=>if c then g n a m else f n a m) r:=let ⟨K,k⟩:=k;⟨K,fun n a m hn ha hm=>(if_pos h).trans (k n a m hn ha hm)⟩
theorem Ev3.no {c:Prop} [Decidable c] {g f:Nat→Nat→Nat→Option α} {r:α} (h:¬ c) (k:Ev3 f r):Ev3 (fun n a m=>if c then g n a m else f n a m) r:=let ⟨K,k⟩:=k;⟨K,fun n a m hn ha hm=>(if_neg h).trans (k n a m hn ha hm)⟩
abbrev F4 (τ:Type):=Int→Int→List (List Sp)→List Gn→τ
abbrev X3T (γ:Type):=F4 (F4 (F4 (F4 (List Sp→F4 (Int→Int→F4 (Int→Option γ))))))
abbrev X4T (γ:Type):=F4 (F4 (F4 (F4 (List Sp→F4 (Int→Int→Int→F4 (Int→Option γ))))))
abbrev X5T (γ:Type):=F4 (F4 (F4 (F4 (List Sp→F4 (Int→Option γ)))))
abbrev X6T (γ:Type):=F4 (F4 (F4 (F4 (List Sp→F4 (Option γ)))))
variable {p c:Int} {core:List (List Sp)} {odd:List Gn}
theorem SL.after {hi:Int} {s u:Sp}:∀ {pre r:List Sp} {lo:Int},SL lo hi (pre++s :: r)→u∈r→s.f1<u.f0
  | [],r,lo,h,hu=>by
    have:=(SL.ticks h.2.2.2 hu).1;omega
  | x :: pre,r,lo,h,hu=>SL.after (pre:=pre) h.2.2.2 hu
def ahl (p c:Int) (core:List (List Sp)) (odd:List Gn) (so:Int→Bool) (s1 i:Int):Option Int→Prop
  | some j=>Ex p c core odd j∧i≤j∧so j=true∧gLo p c core odd j≤s1∧∀ m,Ex p c core odd m→i≤m→m<j→so m=false
  | none=>∀ m,Ex p c core odd m→i≤m→gLo p c core odd m≤s1→so m=false
def agq (p c:Int) (core:List (List Sp)) (odd:List Gn) (so:Int→Bool) (s0 i:Int):Option Int→Prop
  | some j=>Ex p c core odd j∧j≤i∧so j=true∧s0≤gHi p c core odd j∧∀ m,Ex p c core odd m→m≤i→j<m→so m=false
  | none=>∀ m,Ex p c core odd m→m≤i→s0≤gHi p c core odd m→so m=false
def afq (p c:Int) (core:List (List Sp)) (odd:List Gn) (so:Int→Bool):Option Int→Prop
  | some j=>Ex p c core odd j∧so j=true∧∀ m,Ex p c core odd m→so m=true→j≤m
  | none=>∀ m,Ex p c core odd m→so m=false
def aej (p c:Int) (core:List (List Sp)) (odd:List Gn) (so:Int→Bool):Option Int→Prop
  | some j=>Ex p c core odd j∧so j=true∧∀ m,Ex p c core odd m→so m=true→m≤j
  | none=>∀ m,Ex p c core odd m→so m=false
def afr (p c:Int) (core:List (List Sp)) (odd:List Gn) (so:Int→Bool) (set:List Sp):Prop:=∀ m,Ex p c core odd m→so m=true→∃ s∈set,gLo p c core odd m≤s.f1∧s.f0≤gHi p c core odd m
end
variable [Inhabited WT]
variable {p c pa ca:Int} {core ka:List (List Sp)} {odd oa:List Gn} {γ:Type}
theorem ade {W:Nat→List Sp→List Sp→Option Bool} (h:FOK p c core odd) {so:Int→Bool} {set:List Sp} (hso:∀ m,Ex p c core odd m→Ev (fun k=>W k (gT p c core odd m) set) (so m)) (s0 s1:Int):∀ (d:Nat) (b i:Int) (ok:Bool),
    (ok=true→(1099511627777 - i).toNat≤d)→(ok=true→inR i∧fs c core odd i≠[]∧b≤i∧∀ m,Ex p c core odd m→b≤m→i≤m)→(ok=true→∃ i0,Ex p c core odd i0∧i0≤i)→(ok=false→∀ m,Ex p c core odd m→¬ b≤m) →
    ∃ r,ahl p c core odd so s1 b r∧∀ (X0 X1:Nat→Nat→X3T γ) (X2:Nat→Nat→X4T γ) (X3:Nat→Nat→X3T γ) (v:γ),
      (r=none→Ev2 (fun k m=>X0 k m pa ca ka oa p c core odd pa ca ka oa p c core odd set p c core odd s0 s1 p c core odd s0) v∧Ev2 (fun k m=>X1 k m pa ca ka oa p c core odd pa ca ka oa p c core odd set p c core odd s0 s1 p c core odd s0) v∧Ev2 (fun k m=>X3 k m pa ca ka oa p c core odd pa ca ka oa p c core odd set p c core odd s0 s1 p c core odd s0) v) →
      (∀ j,r=some j→Ev2 (fun k m=>X2 k m pa ca ka oa p c core odd pa ca ka oa p c core odd set p c core odd j s0 s1 p c core odd s0) v) →
      Ev3 (fun k k' m=>fE.l1 (fun q1 q2 q3 q4 q5 q6 q7 q8 q9 af ah ai aj ak al q16 am ao ab ap aq q22 au q24 ac aw ax ay az aA x0 x1 x2=>if 0<(q2.length:Int) then (if (gS q2 0).f0>ac then x0 q3 q4 q5 q6 q7 q8 q9 af ah ai aj ak al q16 am ao ab ap aq q22 au q24 ac aw ax ay az aA else ((W k' q2 ab).bind fun t=>if t=true then x1 q3 q4 q5 q6 q7 q8 q9 af ah ai aj ak al q16 am ao ab ap aq q22 au q1 q24 ac aw ax ay az aA else x2 q3 q4 q5 q6 q7 q8 q9 af ah ai aj ak al q16 am ao ab ap aq q22 au q24 ac aw ax ay az aA)) else none)
        (X0 k' m) (X1 k' m) (X2 k' m) (X3 k' m) k i ok pa ca ka oa p c core odd pa ca ka oa p c core odd set p c core odd s0 s1 p c core odd s0) v:=by
  intro d;induction d with
  | zero =>
    intro b i ok h1 h2 h3 h4;have hok:ok=false:=by
      cases ok with
      | true=>have:=(h2 rfl).1;unfold inR at this;have:=h1 rfl;omega
      | false=>rfl
    subst hok;refine ⟨none,fun m hm hi=>(h4 rfl m hm hi).elim,fun X0 X1 X2 X3 v hn hs=>Ev3.step (fun k a m=>rfl) ?_⟩;simp only [fE.l1,fE.l1T];exact Ev3.no (by simp) (Ev3.right (hn rfl).2.2)
  | succ d ih =>
    intro b i ok h1 h2 h3 h4;cases ok with
    | false =>
      refine ⟨none,fun m hm hi=>(h4 rfl m hm hi).elim,fun X0 X1 X2 X3 v hn hs=>Ev3.step (fun k a m=>rfl) ?_⟩;simp only [fE.l1,fE.l1T];exact Ev3.no (by simp) (Ev3.right (hn rfl).2.2)
    | true =>
      obtain ⟨hr,hf,hbi,hall⟩:=h2 rfl;obtain ⟨i0,hi0,hle⟩:=h3 rfl;have hd:=h1 rfl;have hr':=hr;unfold inR at hr';have hth:=lG h.s i;rcases lC h.s i with ⟨e,e1,e2⟩ | ⟨e,e1⟩
      · have ev:thV p c core odd i=gT p c core odd i:=by unfold thV;rw [e1]
        rw [ev] at hth;have hne:¬ ((gT p c core odd i).length:Int)=0:=fun q=>e2 (List.eq_nil_of_length_eq_zero (by omega));have hpos:(0:Int)<((gT p c core odd i).length:Int):=by omega
        have aa:(gS (gT p c core odd i) 0).f0=gLo p c core odd i:=(abj _ e2).2.trans (mO e.n).2.1;by_cases hb:gLo p c core odd i>s1
        · refine ⟨none,fun m hm hi hg => ?_,fun X0 X1 X2 X3 v hn hs=>Ev3.step (fun k a m=>rfl) ?_⟩
          · rcases Int.lt_or_le i m with g | g
            · have:=h.ord i m g e.r hm.r e.n hm.n
              have:=h.s.l6 e.n;omega
            · have:m=i:=by have:=hall m hm hi;omega
              subst this;omega
          · simp only [fE.l1,fE.l1T,decide_eq_true_eq,if_true]
            refine (Ev3.oo hth (Ev3.no hne (Ev3.yes hpos (Ev3.yes (by rw [aa];exact hb) ?_))));exact Ev3.right (hn rfl).2.1
        · by_cases hs1:so i=true
          · refine ⟨some i,⟨e,hbi,hs1,by omega,fun m hm q1 q2=>by have:=hall m hm q1;omega⟩,fun X0 X1 X2 X3 v hn hs=>Ev3.step (fun k a m=>rfl) ?_⟩
            simp only [fE.l1,fE.l1T,decide_eq_true_eq,if_true];refine (Ev3.oo hth (Ev3.no hne (Ev3.yes hpos (Ev3.no (by rw [aa];exact hb) (Ev3.acP (hso i e) (Ev3.yes hs1 ?_))))));exact Ev3.right (hs i rfl)
          · have hs1':so i=false:=by simpa using hs1
            obtain ⟨n,n1,n2⟩:=oN h.s i (by omega);obtain ⟨r,r1,r2⟩:=ih (i+1) n.1 n.2 (fun q=>by have:=(n2.1 q).1;omega) (fun q=>⟨(n2.1 q).2.1,(n2.1 q).2.2.1,by have:=(n2.1 q).1;omega,fun m hm hx=>Classical.byContradiction fun hy=>by
              have hmr:=hm.r;unfold inR at hmr;exact hm.n ((n2.1 q).2.2.2 m (by omega) (by omega))⟩) (fun q=>⟨i0,hi0,by have:=(n2.1 q).1;omega⟩) (fun q m hm hx=>by
              have hmr:=hm.r;unfold inR at hmr;exact hm.n ((n2.2 q).2 m (by omega) hm.r))
            have key:∀ m,Ex p c core odd m→b≤m→m=i∨i+1≤m:=fun m hm hx=>by have:=hall m hm hx;omega
            refine ⟨r,?_,fun X0 X1 X2 X3 v hn hs=>Ev3.step (fun k a m=>rfl) ?_⟩
            · cases r with
              | none =>
                intro m hm hx hg;rcases key m hm hx with q | q
                · rw [q];exact hs1'
                · exact r1 m hm q hg
              | some j =>
                obtain ⟨q1,q2,q3,q4,q5⟩:=r1;refine ⟨q1,by omega,q3,q4,fun m hm hx hy => ?_⟩;rcases key m hm hx with q | q
                · rw [q];exact hs1'
                · exact q5 m hm q hy
            · simp only [fE.l1,fE.l1T,decide_eq_true_eq,if_true]
              refine (Ev3.oo hth (Ev3.no hne (Ev3.yes hpos (Ev3.no (by rw [aa];exact hb) (Ev3.acP (hso i e) (Ev3.no hs1 (Ev3.oo n1 ?_)))))));exact r2 X0 X1 X2 X3 v hn hs
      · have ev:thV p c core odd i=[]:=e1
        rw [ev] at hth;refine ⟨none,fun m hm hx hg=>(e (sF h hi0 hm hle (hall m hm hx) hr hf)).elim,fun X0 X1 X2 X3 v hn hs=>Ev3.step (fun k a m=>rfl) ?_⟩;simp only [fE.l1,fE.l1T,decide_eq_true_eq,if_true];exact Ev3.oo hth (Ev3.yes rfl (Ev3.right (hn rfl).1))
theorem afs (h:FOK p c core odd) {so:Int→Bool} {set:List Sp} (hS:SL (-1099511627776) 1099511627776 set) (hso:∀ m,Ex p c core odd m→Ev (fun k=>jf.f k (gT p c core odd m) set) (so m)) (hh:afr p c core odd so set) :
    ∃ r,afq p c core odd so r∧∀ (X0:Nat→X5T γ) (X1:Nat→X6T γ) (v:γ),(r=none→Ev (fun k=>X1 k pa ca ka oa p c core odd pa ca ka oa p c core odd set p c core odd) v)→(∀ j,r=some j→Ev (fun k=>X0 k pa ca ka oa p c core odd pa ca ka oa p c core odd set p c core odd j) v) →
      Ev2 (fun k k'=>fE.l0 (X0 k') (X1 k') set (set.length:Int) k 0 pa ca ka oa p c core odd pa ca ka oa p c core odd set p c core odd) v:=by
  have hl:set.length≤2199023255553:=by have:=SL.len (lo:=0) hS;omega
  have loop:∀ (rest pre:List Sp),set=pre++rest→(∀ m,Ex p c core odd m→(∃ s∈pre,gLo p c core odd m≤s.f1∧s.f0≤gHi p c core odd m)→so m=false) →
      ∃ r,afq p c core odd so r∧∀ (X0:Nat→X5T γ) (X1:Nat→X6T γ) (v:γ),(r=none→Ev (fun k=>X1 k pa ca ka oa p c core odd pa ca ka oa p c core odd set p c core odd) v)→(∀ j,r=some j→Ev (fun k=>X0 k pa ca ka oa p c core odd pa ca ka oa p c core odd set p c core odd j) v) →
        Ev2 (fun k k'=>fE.l0 (X0 k') (X1 k') set (set.length:Int) k (pre.length:Int) pa ca ka oa p c core odd pa ca ka oa p c core odd set p c core odd) v:=by
    intro rest;induction rest with
    | nil =>
      intro pre hp hi;refine ⟨none,fun m hm => ?_,fun X0 X1 v hn hs=>Ev2.step (fun k m=>rfl) ?_⟩
      · cases e:so m with
        | false=>rfl
        | true =>
          have:=hi m hm (by have:=hh m hm e;rw [hp,List.append_nil] at this;exact this);rw [e] at this;cases this
      · have c1:¬ (pre.length:Int)<(set.length:Int):=by rw [hp];simp
        simp only [fE.l0,fE.l0T,decide_eq_true_eq,c1,if_false];exact Ev2.right (hn rfl)
    | cons s r ih =>
      intro pre hp hi;have hlen:pre.length+1≤set.length:=by rw [hp];simp
      have hrd:gS set (pre.length:Int)=s:=by rw [hp];exact rdS _ _ _
      have c1:(pre.length:Int)<(set.length:Int):=by omega
      have c2:(0:Int)≤(pre.length:Int):=by omega
      have hw:=nx c1 c2 (by omega);obtain ⟨a,a1,a2⟩:=xB h s.f0;have hs0:=SL.ticks hS (s:=s) (by rw [hp];simp);have base:∀ m,Ex p c core odd m→s.f0≤gHi p c core odd m→a.2=true∧a.1≤m:=fun m hm hx=>by
        cases e:a.2 with
        | true=>exact ⟨rfl,(a2.y e).2.2 m hm hx⟩
        | false=>exact ((a2.n e).2 m hm hx).elim
      obtain ⟨b,hb1,hb2⟩:∃ b,(a.2=true→b=a.1)∧(a.2=false→b=1099511627777):=by
        cases a.2 with
        | true=>exact ⟨a.1,fun _=>rfl,(fun q=>by cases q)⟩
        | false=>exact ⟨1099511627777,(fun q=>by cases q),fun _=>rfl⟩
      obtain ⟨x,x1,x2⟩:=ade (pa:=pa) (ca:=ca) (ka:=ka) (oa:=oa) (γ:=γ) h hso s.f0 s.f1 (1099511627777 - a.1).toNat b a.1 a.2 (fun _=>Nat.le_refl _) (fun q=>⟨(a2.y q).1.r,(a2.y q).1.n,Int.le_of_eq (hb1 q),fun m _ hx=>by rw [hb1 q] at hx;exact hx⟩) (fun q=>⟨a.1,(a2.y q).1,Int.le_refl _⟩) (fun q m hm hx=>by have:=hm.r;unfold inR at this;have:=hb2 q;omega);have hb3:∀ m,Ex p c core odd m→s.f0≤gHi p c core odd m→b≤m:=fun m hm hx=>by
        obtain ⟨q1,q2⟩:=base m hm hx;rw [hb1 q1];exact q2
      cases x with
      | some j =>
        obtain ⟨y1,y2,y3,y4,y5⟩:=x1;refine ⟨some j,⟨y1,y3,fun m hm hsm=>Classical.byContradiction fun hlt => ?_⟩,fun X0 X1 v hn hs=>Ev2.step (fun k m=>rfl) ?_⟩
        · obtain ⟨u,hu,u1,u2⟩:=hh m hm hsm
          rw [hp] at hu;rcases List.mem_append.1 hu with hu | hu
          · rw [hi m hm ⟨u,hu,u1,u2⟩] at hsm;cases hsm
          · rcases List.mem_cons.1 hu with rfl | hu
            · rw [y5 m hm (hb3 m hm u2) (by omega)] at hsm;cases hsm
            · have:=SL.after (hp ▸ hS) hu
              have:=h.ord m j (by omega) hm.r y1.r hm.n y1.n;omega
        · simp only [fE.l0,fE.l0T,decide_eq_true_eq,c1,c2,if_true,hrd]
          refine Ev2.oo a1 ?_;exact (x2 _ _ _ _ v (fun e=>by cases e) (fun j' e=>by cases e;exact Ev2.right (hs j rfl))).two
      | none =>
        obtain ⟨z,z1,z2⟩:=ih (pre++[s]) (by rw [hp];simp) (fun m hm ⟨u,hu,u1,u2⟩=>by
          rcases List.mem_append.1 hu with hu | hu
          · exact hi m hm ⟨u,hu,u1,u2⟩
          · simp at hu;subst hu
            exact x1 m hm (hb3 m hm u2) u1)
        refine ⟨z,z1,fun X0 X1 v hn hs=>Ev2.step (fun k m=>rfl) ?_⟩;have hz:=z2 X0 X1 v hn hs;rw [← len1] at hz;simp only [fE.l0,fE.l0T,decide_eq_true_eq,c1,c2,if_true,hrd,hw];refine Ev2.oo a1 ?_;exact (x2 _ _ _ _ v (fun _=>⟨hz,hz,hz⟩) (fun j' e=>by cases e)).two
  exact loop set [] rfl (fun m _ ⟨s,hs,_⟩=>by simp at hs)
end Go.Proofs.YtongeknogcboiaaGreat.Q
namespace Go.Proofs.YtongeknogcboiaaGreat.Q
set_option linter.unusedVariables false
set_option linter.unusedSimpArgs false
open Go.RowKit Go.Proofs.YtongeknogcboiaaGreatW.fK Go.Proofs.YtongeknogcboiaaGreatW.iE M R P
section
abbrev X7T (γ:Type):=F4 (F4 (F4 (F4 (List Sp→F4 (List Sp→Int→Int→F4 (Int→Option γ))))))
abbrev X8T (γ:Type):=F4 (F4 (F4 (F4 (List Sp→F4 (Int→List Sp→Int→Int→F4 (Int→Option γ))))))
abbrev X9T (γ:Type):=F4 (F4 (F4 (F4 (List Sp→F4 (Int→List Sp→Option γ)))))
abbrev ahc (γ:Type):=F4 (F4 (F4 (F4 (List Sp→F4 (List Sp→Option γ)))))
theorem Ev2.swap {α:Type} {g:Nat→Nat→Option α} {r:α} (h:Ev2 g r):Ev2 (fun a m=>g m a) r:=let ⟨K,h⟩:=h;⟨K,fun k m hk hm=>h m k hm hk⟩
theorem Ev3.two' {α:Type} {g:Nat→Nat→Nat→Option α} {r:α} (h:Ev3 g r):Ev2 (fun k m=>g m m k) r:=let ⟨K,h⟩:=h;⟨K,fun k m hk hm=>h m m k hm hm hk⟩
end
variable [Inhabited WT]
variable {p c pa ca:Int} {core ka:List (List Sp)} {odd oa:List Gn} {γ:Type}
theorem aek {W:Nat→List Sp→List Sp→Option Bool} (h:FOK p c core odd) {so:Int→Bool} {set:List Sp} (hso:∀ m,Ex p c core odd m→Ev (fun k=>W k (gT p c core odd m) set) (so m)) (s0 s1:Int):∀ (d:Nat) (b i:Int) (ok:Bool),
    (ok=true→(i+1099511627777).toNat≤d)→(ok=true→inR i∧fs c core odd i≠[]∧i≤b∧∀ m,Ex p c core odd m→m≤b→m≤i)→(ok=true→∃ i0,Ex p c core odd i0∧i≤i0)→(ok=false→∀ m,Ex p c core odd m→¬ m≤b) →
    ∃ r,agq p c core odd so s0 b r∧∀ (X0 X1:Nat→Nat→X7T γ) (X2:Nat→Nat→X8T γ) (X3:Nat→Nat→X7T γ) (v:γ),
      (r=none→Ev2 (fun k m=>X0 k m pa ca ka oa p c core odd pa ca ka oa p c core odd set p c core odd set s0 s1 p c core odd s1) v∧Ev2 (fun k m=>X1 k m pa ca ka oa p c core odd pa ca ka oa p c core odd set p c core odd set s0 s1 p c core odd s1) v∧Ev2 (fun k m=>X3 k m pa ca ka oa p c core odd pa ca ka oa p c core odd set p c core odd set s0 s1 p c core odd s1) v) →
      (∀ j,r=some j→Ev2 (fun k m=>X2 k m pa ca ka oa p c core odd pa ca ka oa p c core odd set p c core odd j set s0 s1 p c core odd s1) v) →
      Ev3 (fun k k' m=>fE.l3 (fun q1 q2 q3 q4 q5 q6 q7 q8 q9 af ah ai aj ak al q16 am ao ab ap aq q22 au q24 ac aw ax ay az aA aB x0 x1 x2=>if 0≤wq ((q2.length:Int) - 1) then (if wq ((q2.length:Int) - 1)<(q2.length:Int) then (if (gS q2 (wq ((q2.length:Int) - 1))).f1<ac then x0 q3 q4 q5 q6 q7 q8 q9 af ah ai aj ak al q16 am ao ab ap aq q22 au q24 ac aw ax ay az aA aB else ((W k' q2 ab).bind fun t=>if t=true then x1 q3 q4 q5 q6 q7 q8 q9 af ah ai aj ak al q16 am ao ab ap aq q22 au q1 q24 ac aw ax ay az aA aB else x2 q3 q4 q5 q6 q7 q8 q9 af ah ai aj ak al q16 am ao ab ap aq q22 au q24 ac aw ax ay az aA aB)) else none) else none)
        (X0 k' m) (X1 k' m) (X2 k' m) (X3 k' m) k i ok pa ca ka oa p c core odd pa ca ka oa p c core odd set p c core odd set s0 s1 p c core odd s1) v:=by
  intro d;induction d with
  | zero =>
    intro b i ok h1 h2 h3 h4;have hok:ok=false:=by
      cases ok with
      | true=>have:=(h2 rfl).1;unfold inR at this;have:=h1 rfl;omega
      | false=>rfl
    subst hok;refine ⟨none,fun m hm hi=>(h4 rfl m hm hi).elim,fun X0 X1 X2 X3 v hn hs=>Ev3.step (fun k a m=>rfl) ?_⟩;simp only [fE.l3,fE.l3T];exact Ev3.no (by simp) (Ev3.right (hn rfl).2.2)
  | succ d ih =>
    intro b i ok h1 h2 h3 h4;cases ok with
    | false =>
      refine ⟨none,fun m hm hi=>(h4 rfl m hm hi).elim,fun X0 X1 X2 X3 v hn hs=>Ev3.step (fun k a m=>rfl) ?_⟩;simp only [fE.l3,fE.l3T];exact Ev3.no (by simp) (Ev3.right (hn rfl).2.2)
    | true =>
      obtain ⟨hr,hf,hbi,hall⟩:=h2 rfl;obtain ⟨i0,hi0,hle⟩:=h3 rfl;have hd:=h1 rfl;have hr':=hr;unfold inR at hr';have hth:=lG h.s i;rcases lC h.s i with ⟨e,e1,e2⟩ | ⟨e,e1⟩
      · have ev:thV p c core odd i=gT p c core odd i:=by unfold thV;rw [e1]
        rw [ev] at hth;have hne:¬ ((gT p c core odd i).length:Int)=0:=fun q=>e2 (List.eq_nil_of_length_eq_zero (by omega));obtain ⟨w1,aC,w3⟩:=adb _ e2 (h.s.pG e).aa3;have w2:0≤wq (((gT p c core odd i).length:Int) - 1):=by rw [w1];exact aC
        have w4:wq (((gT p c core odd i).length:Int) - 1)<((gT p c core odd i).length:Int):=by rw [w1];omega
        have aa:(gS (gT p c core odd i) (wq (((gT p c core odd i).length:Int) - 1))).f1=gHi p c core odd i:=by rw [w1];exact w3.trans (mO e.n).2.2
        by_cases hb:gHi p c core odd i<s0
        · refine ⟨none,fun m hm hi hg => ?_,fun X0 X1 X2 X3 v hn hs=>Ev3.step (fun k a m=>rfl) ?_⟩
          · rcases Int.lt_or_le m i with g | g
            · have:=h.ord m i g hm.r e.r hm.n e.n
              have:=h.s.l6 e.n;omega
            · have:m=i:=by have:=hall m hm hi;omega
              subst this;omega
          · simp only [fE.l3,fE.l3T,decide_eq_true_eq,if_true]
            refine (Ev3.oo hth (Ev3.no hne (Ev3.yes w2 (Ev3.yes w4 (Ev3.yes (by rw [aa];exact hb) ?_)))));exact Ev3.right (hn rfl).2.1
        · by_cases hs1:so i=true
          · refine ⟨some i,⟨e,hbi,hs1,by omega,fun m hm q1 q2=>by have:=hall m hm q1;omega⟩,fun X0 X1 X2 X3 v hn hs=>Ev3.step (fun k a m=>rfl) ?_⟩
            simp only [fE.l3,fE.l3T,decide_eq_true_eq,if_true];refine (Ev3.oo hth (Ev3.no hne (Ev3.yes w2 (Ev3.yes w4 (Ev3.no (by rw [aa];exact hb) (Ev3.acP (hso i e) (Ev3.yes hs1 ?_)))))));exact Ev3.right (hs i rfl)
          · have hs1':so i=false:=by simpa using hs1
            obtain ⟨n,n1,n2⟩:=oO h.s i (by omega);obtain ⟨r,r1,r2⟩:=ih (i - 1) n.1 n.2 (fun q=>by have:=(n2.1 q).1;omega) (fun q=>⟨(n2.1 q).2.1,(n2.1 q).2.2.1,by have:=(n2.1 q).1;omega,fun m hm hx=>Classical.byContradiction fun hy=>by
              have hmr:=hm.r;unfold inR at hmr;exact hm.n ((n2.1 q).2.2.2 m (by omega) (by omega))⟩) (fun q=>⟨i0,hi0,by have:=(n2.1 q).1;omega⟩) (fun q m hm hx=>by
              have hmr:=hm.r;unfold inR at hmr;exact hm.n ((n2.2 q).2 m (by omega) hm.r))
            have key:∀ m,Ex p c core odd m→m≤b→m=i∨m≤i - 1:=fun m hm hx=>by have:=hall m hm hx;omega
            refine ⟨r,?_,fun X0 X1 X2 X3 v hn hs=>Ev3.step (fun k a m=>rfl) ?_⟩
            · cases r with
              | none =>
                intro m hm hx hg;rcases key m hm hx with q | q
                · rw [q];exact hs1'
                · exact r1 m hm q hg
              | some j =>
                obtain ⟨q1,q2,q3,q4,q5⟩:=r1;refine ⟨q1,by omega,q3,q4,fun m hm hx hy => ?_⟩;rcases key m hm hx with q | q
                · rw [q];exact hs1'
                · exact q5 m hm q hy
            · simp only [fE.l3,fE.l3T,decide_eq_true_eq,if_true]
              refine (Ev3.oo hth (Ev3.no hne (Ev3.yes w2 (Ev3.yes w4 (Ev3.no (by rw [aa];exact hb) (Ev3.acP (hso i e) (Ev3.no hs1 (Ev3.oo n1 ?_))))))));exact r2 X0 X1 X2 X3 v hn hs
      · have ev:thV p c core odd i=[]:=e1
        rw [ev] at hth;refine ⟨none,fun m hm hx hg=>(e (sF h hm hi0 (hall m hm hx) hle hr hf)).elim,fun X0 X1 X2 X3 v hn hs=>Ev3.step (fun k a m=>rfl) ?_⟩;simp only [fE.l3,fE.l3T,decide_eq_true_eq,if_true];exact Ev3.oo hth (Ev3.yes rfl (Ev3.right (hn rfl).1))
noncomputable def YB [Inhabited WT] {γ:Type} (W:Nat→List Sp→List Sp→Option Bool) (k':Nat):Int→Int→Int→F4 (F4 (F4 (F4 (List Sp→F4 (List Sp→(F4 (F4 (F4 (F4 (List Sp→F4 (List Sp→Option γ))))))→X9T γ→Option γ))))) :=
  fun q1 q2 q3 q4 q5 q6 q7 q8 q9 aG aH aI aJ aK aL q16 aM aN aO aP am q22 ao q24 aQ x0 x1=>(fI.f k' am q22 ao q24 q3).bind fun t=>fE.l3 (fun p1 p2 p3 p4 p5 p6 p7 p8 p9 ap aq au aw ax ay p16 az aA al aB aC aD aE aF p25 p26 p27 p28 p29 p30 p31 y0 y1 y2=>if 0≤wq ((p2.length:Int) - 1) then (if wq ((p2.length:Int) - 1)<(p2.length:Int) then (if (gS p2 (wq ((p2.length:Int) - 1))).f1<p25 then y0 p3 p4 p5 p6 p7 p8 p9 ap aq au aw ax ay p16 az aA al aB aC aD aE aF p25 p26 p27 p28 p29 p30 p31 else ((W k' p2 al).bind fun t=>if t=true then y1 p3 p4 p5 p6 p7 p8 p9 ap aq au aw ax ay p16 az aA al aB aC aD aE p1 aF p25 p26 p27 p28 p29 p30 p31 else y2 p3 p4 p5 p6 p7 p8 p9 ap aq au aw ax ay p16 az aA al aB aC aD aE aF p25 p26 p27 p28 p29 p30 p31)) else none) else none)
          (fun z1 z2 z3 z4 z5 z6 z7 z8 z9 aa ab z12 ac af ah ai z17 aj ak z20 z21 z22 z23 z24 z25 z26 z27 z28 z29=>x0 z1 z2 z3 z4 z5 z6 z7 z8 z9 aa ab z12 ac af ah ai z17 aj ak z20 z21 z22) (fun z1 z2 z3 z4 z5 z6 z7 z8 z9 aa ab z12 ac af ah ai z17 aj ak z20 z21 z22 z23 z24 z25 z26 z27 z28 z29=>x0 z1 z2 z3 z4 z5 z6 z7 z8 z9 aa ab z12 ac af ah ai z17 aj ak z20 z21 z22)
          (fun z1 z2 z3 z4 z5 z6 z7 z8 z9 aa ab z12 ac af ah ai z17 aj ak z20 z21 z22 z23 z24 z25 z26 z27 z28 z29 z30=>x1 z1 z2 z3 z4 z5 z6 z7 z8 z9 aa ab z12 ac af ah ai z17 aj ak z20 z21 z22 z23) (fun z1 z2 z3 z4 z5 z6 z7 z8 z9 aa ab z12 ac af ah ai z17 aj ak z20 z21 z22 z23 z24 z25 z26 z27 z28 z29=>x0 z1 z2 z3 z4 z5 z6 z7 z8 z9 aa ab z12 ac af ah ai z17 aj ak z20 z21 z22)
          k' t.1 t.2 q4 q5 q6 q7 q8 q9 aG aH aI aJ aK aL q16 aM aN aO aP am q22 ao q24 aQ q2 q3 am q22 ao q24 q3
theorem abq {W:Nat→List Sp→List Sp→Option Bool} (h:FOK p c core odd) {so:Int→Bool} {set:List Sp} (hS:SL (-1099511627776) 1099511627776 set) (hso:∀ m,Ex p c core odd m→Ev (fun k=>W k (gT p c core odd m) set) (so m)) (hh:afr p c core odd so set) :
    ∃ r,aej p c core odd so r∧∀ (X0:Nat→X9T γ) (X1:Nat→ahc γ) (v:γ),(r=none→Ev (fun k=>X1 k pa ca ka oa p c core odd pa ca ka oa p c core odd set p c core odd set) v)→(∀ j,r=some j→Ev (fun k=>X0 k pa ca ka oa p c core odd pa ca ka oa p c core odd set p c core odd j set) v) →
      Ev2 (fun k k'=>fE.l2 (YB W k') (X0 k') (X1 k') k (wq ((set.length:Int) - 1)) pa ca ka oa p c core odd pa ca ka oa p c core odd set p c core odd set) v:=by
  have hl:set.length≤2199023255553:=by have:=SL.len (lo:=0) hS;omega
  have loop:∀ (n:Nat),n≤set.length→(∀ m,Ex p c core odd m→(∃ j,∃ hj:j<set.length,n≤j∧gLo p c core odd m≤set[j].f1∧set[j].f0≤gHi p c core odd m)→so m=false) →
      ∃ r,aej p c core odd so r∧∀ (X0:Nat→X9T γ) (X1:Nat→ahc γ) (v:γ),(r=none→Ev (fun k=>X1 k pa ca ka oa p c core odd pa ca ka oa p c core odd set p c core odd set) v)→(∀ j,r=some j→Ev (fun k=>X0 k pa ca ka oa p c core odd pa ca ka oa p c core odd set p c core odd j set) v) →
        Ev2 (fun k k'=>fE.l2 (YB W k') (X0 k') (X1 k') k ((n:Int) - 1) pa ca ka oa p c core odd pa ca ka oa p c core odd set p c core odd set) v:=by
    intro n;induction n with
    | zero =>
      intro hn hi;refine ⟨none,fun m hm => ?_,fun X0 X1 v hn hs=>Ev2.step (fun k m=>rfl) ?_⟩
      · cases e:so m with
        | false=>rfl
        | true =>
          obtain ⟨u,hu,u1,u2⟩:=hh m hm e;obtain ⟨j,hj,rfl⟩:=List.getElem_of_mem hu;have:=hi m hm ⟨j,hj,Nat.zero_le _,u1,u2⟩;rw [e] at this;cases this
      · simp only [fE.l2,fE.l2T,decide_eq_true_eq]
        exact Ev2.no (by omega) (Ev2.right (hn rfl))
    | succ n ih =>
      intro hn hi;have en:((n+1:Nat):Int) - 1=(n:Int):=by omega
      have hlt:n<set.length:=by omega
      have hrd:=agn set n hlt;have c1:(n:Int)<(set.length:Int):=by omega
      have c2:(0:Int)≤(n:Int):=by omega
      have hw:wq ((n:Int) - 1)=(n:Int) - 1:=jh (by omega) (by omega);rw [en];obtain ⟨s,hs⟩:∃ s,set[n]=s:=⟨_,rfl⟩;rw [hs] at hrd;obtain ⟨a,a1,a2⟩:=aeg h s.f1;have base:∀ m,Ex p c core odd m→gLo p c core odd m≤s.f1→a.2=true∧m≤a.1:=fun m hm hx=>by
        cases e:a.2 with
        | true=>exact ⟨rfl,(a2.y e).2.2 m hm hx⟩
        | false=>exact ((a2.n e).2 m hm hx).elim
      obtain ⟨b,hb1,hb2⟩:∃ b,(a.2=true→b=a.1)∧(a.2=false→b = -1099511627777):=by
        cases a.2 with
        | true=>exact ⟨a.1,fun _=>rfl,(fun q=>by cases q)⟩
        | false=>exact ⟨-1099511627777,(fun q=>by cases q),fun _=>rfl⟩
      obtain ⟨x,x1,x2⟩:=aek (pa:=pa) (ca:=ca) (ka:=ka) (oa:=oa) (γ:=γ) h hso s.f0 s.f1 (a.1+1099511627777).toNat b a.1 a.2 (fun _=>Nat.le_refl _) (fun q=>⟨(a2.y q).1.r,(a2.y q).1.n,Int.le_of_eq (hb1 q).symm,fun m _ hx=>by rw [hb1 q] at hx;exact hx⟩) (fun q=>⟨a.1,(a2.y q).1,Int.le_refl _⟩) (fun q m hm hx=>by have:=hm.r;unfold inR at this;have:=hb2 q;omega);have hb3:∀ m,Ex p c core odd m→gLo p c core odd m≤s.f1→m≤b:=fun m hm hx=>by
        obtain ⟨q1,q2⟩:=base m hm hx;rw [hb1 q1];exact q2
      cases x with
      | some j =>
        obtain ⟨y1,y2,y3,y4,y5⟩:=x1;refine ⟨some j,⟨y1,y3,fun m hm hsm=>Classical.byContradiction fun hgt => ?_⟩,fun X0 X1 v hn hs=>Ev2.step (fun k m=>rfl) ?_⟩
        · obtain ⟨u,hu,u1,u2⟩:=hh m hm hsm
          obtain ⟨i,hi2,rfl⟩:=List.getElem_of_mem hu;rcases Nat.lt_or_ge n i with g | g
          · rw [hi m hm ⟨i,hi2,g,u1,u2⟩] at hsm;cases hsm
          · rcases Nat.lt_or_ge i n with g2 | g2
            · have:=SL.rise hS i n hlt g2
              rw [hs] at this;have:=h.ord j m (by omega) y1.r hm.r y1.n hm.n;omega
            · have:i=n:=by omega
              subst this;rw [hs] at u1 u2;rw [y5 m hm (hb3 m hm u1) (by omega)] at hsm;cases hsm
        · simp only [fE.l2,fE.l2T,decide_eq_true_eq]
          refine Ev2.yes (by omega) (Ev2.yes c2 (Ev2.yes c1 ?_));rw [hrd];unfold YB;refine Ev2.afp a1 ?_;exact (x2 _ _ _ _ v (fun e=>by cases e) (fun j' e=>by cases e;exact Ev2.of (hs j rfl))).two'
      | none =>
        obtain ⟨z,z1,z2⟩:=ih (by omega) (fun m hm ⟨i,hi2,g,u1,u2⟩=>by
          rcases Nat.lt_or_ge n i with q | q
          · exact hi m hm ⟨i,hi2,q,u1,u2⟩
          · have:i=n:=by omega
            subst this;rw [hs] at u1 u2;exact x1 m hm (hb3 m hm u1) u2)
        refine ⟨z,z1,fun X0 X1 v hn hs=>Ev2.step (fun k m=>rfl) ?_⟩;have hz:=z2 X0 X1 v hn hs;simp only [fE.l2,fE.l2T,decide_eq_true_eq,hw];refine Ev2.yes (by omega) (Ev2.yes c2 (Ev2.yes c1 ?_));rw [hrd];unfold YB;refine Ev2.afp a1 ?_;have hz':=Ev2.swap hz;exact (x2 _ _ _ _ v (fun _=>⟨hz',hz',hz'⟩) (fun j' e=>by cases e)).two'
  have:=loop set.length (Nat.le_refl _) (fun m _ ⟨j,hj,hj2,_⟩=>by omega);rw [jh (n:=(set.length:Int) - 1) (by omega) (by omega)];exact this
end Go.Proofs.YtongeknogcboiaaGreat.Q
namespace Go.Proofs.YtongeknogcboiaaGreat.Q
set_option linter.unusedVariables false
set_option linter.unusedSimpArgs false
open Go.RowKit Go.Proofs.YtongeknogcboiaaGreatW.fK Go.Proofs.YtongeknogcboiaaGreatW.iE M R P
variable {γ:Type} {p c pa ca:Int} {core ka:List (List Sp)} {odd oa:List Gn}
def inS (l m:List Sp):Bool:=decide (nW (fun a b=>a && !b) l m=[])
def meS (l m:List Sp):Bool:=decide (nW (fun a b=>a&&b) l m≠[])
theorem abr {lo hi:Int} {l:List Sp} (h:SL lo hi l) (hn:l≠[]):∃ x,lF l x=true:=by
  refine Classical.byContradiction fun hx=>hn (h.empty fun x => ?_);rw [Bool.eq_false_iff];exact fun e=>hx ⟨x,e⟩
theorem uE {l m:List Sp} (hl:SL (-1099511627776) 1099511627776 l) (hm:SL (-1099511627776) 1099511627776 m):inS l m=true↔∀ x,lF l x=true→lF m x=true:=by
  obtain ⟨k1,k2⟩:=aaZ (fun a b=>a && !b) rfl hl hm;unfold inS;rw [decide_eq_true_eq];constructor
  · intro e x hx
    have:=k2 x;rw [e] at this;simp only [tX,hx,Bool.true_and] at this;simpa using this
  · intro e
    refine k1.empty fun x => ?_;rw [k2];cases hx:lF l x with
    | false=>rfl
    | true=>simp [e x hx]
theorem xD {l m:List Sp} (hl:SL (-1099511627776) 1099511627776 l) (hm:SL (-1099511627776) 1099511627776 m):meS l m=true↔∃ x,lF l x=true∧lF m x=true:=by
  obtain ⟨k1,k2⟩:=aaZ (fun a b=>a&&b) rfl hl hm;unfold meS;rw [decide_eq_true_eq];constructor
  · intro e
    obtain ⟨x,hx⟩:=abr k1 e;rw [k2,Bool.and_eq_true] at hx;exact ⟨x,hx⟩
  · rintro ⟨x,h1,h2⟩ e
    have:=k2 x;rw [e,h1,h2] at this;cases this
theorem adf {i x:Int} (h:SF p c core odd) (e:Ex p c core odd i) (hx:lF (gT p c core odd i) x=true):gLo p c core odd i≤x∧x≤gHi p c core odd i:=by
  have hs:=h.pG e;obtain ⟨n,f1,f2⟩:=mO (p:=p) e.n;have:=hs.qV hx;omega
theorem abt (h:SF p c core odd) {set:List Sp} (hS:SL (-1099511627776) 1099511627776 set):afr p c core odd (fun m=>meS (gT p c core odd m) set) set:=fun m hm e=>by
  obtain ⟨x,h1,h2⟩:=(xD (h.pG hm) hS).1 e;obtain ⟨s,hs,s1,s2⟩:=ni.1 h2;have:=adf h hm h1;exact ⟨s,hs,by omega,by omega⟩
theorem abu (h:SF p c core odd) {set:List Sp} (hS:SL (-1099511627776) 1099511627776 set):afr p c core odd (fun m=>inS (gT p c core odd m) set) set:=fun m hm e=>by
  obtain ⟨x,h1⟩:=abr (h.pG hm) (mO (p:=p) hm.n).1;obtain ⟨s,hs,s1,s2⟩:=ni.1 ((uE (h.pG hm) hS).1 e x h1);have:=adf h hm h1;exact ⟨s,hs,by omega,by omega⟩
structure BoS (p c:Int) (core:List (List Sp)) (odd:List Gn) (so:Int→Bool) (r:Int × Int × Bool):Prop where
  y:r.2.2=true→(Ex p c core odd r.1∧so r.1=true)∧(Ex p c core odd r.2.1∧so r.2.1=true)∧∀ m,Ex p c core odd m→so m=true→r.1≤m∧m≤r.2.1
  n:r.2.2=false→r.1=0∧r.2.1=0∧∀ m,Ex p c core odd m→so m=false
theorem sG (h:SF p c core odd) (i:Int):SL (-1099511627776) 1099511627776 (thV p c core odd i):=by
  unfold thV;rcases lC h i with ⟨e,e1,e2⟩ | ⟨e,e1⟩
  · rw [e1];exact h.pG e
  · rw [e1];trivial
theorem abv (h:FOK p c core odd) {so:Int→Bool} {r1 r2:Option Int} (h1:afq p c core odd so r1) (h2:aej p c core odd so r2):BoS p c core odd so (match r1 with | none=>(0,0,false) | some j=>(j,r2.getD 0,true)):=by
  cases r1 with
  | none=>exact ⟨(fun e=>by cases e),fun _=>⟨rfl,rfl,h1⟩⟩
  | some j =>
    obtain ⟨a1,a2,a3⟩:=h1;cases r2 with
    | none=>have:=h2 j a1;rw [a2] at this;cases this
    | some m =>
      obtain ⟨b1,b2,b3⟩:=h2;exact ⟨fun _=>⟨⟨a1,a2⟩,⟨b1,b2⟩,fun q hq hs=>⟨a3 q hq hs,b3 q hq hs⟩⟩,fun e=>by cases e⟩
theorem ru:@fF.l1=@fE.l1:=by kernel_rfl
theorem abw:@fF.l2=@fE.l2:=by kernel_rfl
theorem abx:@fF.l3=@fE.l3:=by kernel_rfl
variable [Inhabited WT]
theorem ael (h:FOK p c core odd) {so:Int→Bool} {set:List Sp} (hS:SL (-1099511627776) 1099511627776 set) (hso:∀ m,Ex p c core odd m→Ev (fun k=>iB.f k (gT p c core odd m) set) (so m)) (hh:afr p c core odd so set) :
    ∃ r,afq p c core odd so r∧∀ (X0:Nat→X5T γ) (X1:Nat→X6T γ) (v:γ),(r=none→Ev (fun k=>X1 k pa ca ka oa p c core odd pa ca ka oa p c core odd set p c core odd) v)→(∀ j,r=some j→Ev (fun k=>X0 k pa ca ka oa p c core odd pa ca ka oa p c core odd set p c core odd j) v) →
      Ev2 (fun k k'=>fF.l0 (X0 k') (X1 k') set (set.length:Int) k 0 pa ca ka oa p c core odd pa ca ka oa p c core odd set p c core odd) v:=by
  have hl:set.length≤2199023255553:=by have:=SL.len (lo:=0) hS;omega
  have loop:∀ (rest pre:List Sp),set=pre++rest→(∀ m,Ex p c core odd m→(∃ s∈pre,gLo p c core odd m≤s.f1∧s.f0≤gHi p c core odd m)→so m=false) →
      ∃ r,afq p c core odd so r∧∀ (X0:Nat→X5T γ) (X1:Nat→X6T γ) (v:γ),(r=none→Ev (fun k=>X1 k pa ca ka oa p c core odd pa ca ka oa p c core odd set p c core odd) v)→(∀ j,r=some j→Ev (fun k=>X0 k pa ca ka oa p c core odd pa ca ka oa p c core odd set p c core odd j) v) →
        Ev2 (fun k k'=>fF.l0 (X0 k') (X1 k') set (set.length:Int) k (pre.length:Int) pa ca ka oa p c core odd pa ca ka oa p c core odd set p c core odd) v:=by
    intro rest;induction rest with
    | nil =>
      intro pre hp hi;refine ⟨none,fun m hm => ?_,fun X0 X1 v hn hs=>Ev2.step (fun k m=>rfl) ?_⟩
      · cases e:so m with
        | false=>rfl
        | true =>
          have:=hi m hm (by have:=hh m hm e;rw [hp,List.append_nil] at this;exact this);rw [e] at this;cases this
      · have c1:¬ (pre.length:Int)<(set.length:Int):=by rw [hp];simp
        simp only [fF.l0,fF.l0T,ru,decide_eq_true_eq,c1,if_false];exact Ev2.right (hn rfl)
    | cons s r ih =>
      intro pre hp hi;have hlen:pre.length+1≤set.length:=by rw [hp];simp
      have hrd:gS set (pre.length:Int)=s:=by rw [hp];exact rdS _ _ _
      have c1:(pre.length:Int)<(set.length:Int):=by omega
      have c2:(0:Int)≤(pre.length:Int):=by omega
      have hw:=nx c1 c2 (by omega);obtain ⟨a,a1,a2⟩:=xB h s.f0;have hs0:=SL.ticks hS (s:=s) (by rw [hp];simp);have base:∀ m,Ex p c core odd m→s.f0≤gHi p c core odd m→a.2=true∧a.1≤m:=fun m hm hx=>by
        cases e:a.2 with
        | true=>exact ⟨rfl,(a2.y e).2.2 m hm hx⟩
        | false=>exact ((a2.n e).2 m hm hx).elim
      obtain ⟨b,hb1,hb2⟩:∃ b,(a.2=true→b=a.1)∧(a.2=false→b=1099511627777):=by
        cases a.2 with
        | true=>exact ⟨a.1,fun _=>rfl,(fun q=>by cases q)⟩
        | false=>exact ⟨1099511627777,(fun q=>by cases q),fun _=>rfl⟩
      obtain ⟨x,x1,x2⟩:=ade (pa:=pa) (ca:=ca) (ka:=ka) (oa:=oa) (γ:=γ) h hso s.f0 s.f1 (1099511627777 - a.1).toNat b a.1 a.2 (fun _=>Nat.le_refl _) (fun q=>⟨(a2.y q).1.r,(a2.y q).1.n,Int.le_of_eq (hb1 q),fun m _ hx=>by rw [hb1 q] at hx;exact hx⟩) (fun q=>⟨a.1,(a2.y q).1,Int.le_refl _⟩) (fun q m hm hx=>by have:=hm.r;unfold inR at this;have:=hb2 q;omega);have hb3:∀ m,Ex p c core odd m→s.f0≤gHi p c core odd m→b≤m:=fun m hm hx=>by
        obtain ⟨q1,q2⟩:=base m hm hx;rw [hb1 q1];exact q2
      cases x with
      | some j =>
        obtain ⟨y1,y2,y3,y4,y5⟩:=x1;refine ⟨some j,⟨y1,y3,fun m hm hsm=>Classical.byContradiction fun hlt => ?_⟩,fun X0 X1 v hn hs=>Ev2.step (fun k m=>rfl) ?_⟩
        · obtain ⟨u,hu,u1,u2⟩:=hh m hm hsm
          rw [hp] at hu;rcases List.mem_append.1 hu with hu | hu
          · rw [hi m hm ⟨u,hu,u1,u2⟩] at hsm;cases hsm
          · rcases List.mem_cons.1 hu with rfl | hu
            · rw [y5 m hm (hb3 m hm u2) (by omega)] at hsm;cases hsm
            · have:=SL.after (hp ▸ hS) hu
              have:=h.ord m j (by omega) hm.r y1.r hm.n y1.n;omega
        · simp only [fF.l0,fF.l0T,ru,decide_eq_true_eq,c1,c2,if_true,hrd]
          refine Ev2.oo a1 ?_;exact (x2 _ _ _ _ v (fun e=>by cases e) (fun j' e=>by cases e;exact Ev2.right (hs j rfl))).two
      | none =>
        obtain ⟨z,z1,z2⟩:=ih (pre++[s]) (by rw [hp];simp) (fun m hm ⟨u,hu,u1,u2⟩=>by
          rcases List.mem_append.1 hu with hu | hu
          · exact hi m hm ⟨u,hu,u1,u2⟩
          · simp at hu;subst hu
            exact x1 m hm (hb3 m hm u2) u1)
        refine ⟨z,z1,fun X0 X1 v hn hs=>Ev2.step (fun k m=>rfl) ?_⟩;have hz:=z2 X0 X1 v hn hs;rw [← len1] at hz;simp only [fF.l0,fF.l0T,ru,decide_eq_true_eq,c1,c2,if_true,hrd,hw];refine Ev2.oo a1 ?_;exact (x2 _ _ _ _ v (fun _=>⟨hz,hz,hz⟩) (fun j' e=>by cases e)).two
  exact loop set [] rfl (fun m _ ⟨s,hs,_⟩=>by simp at hs)
theorem acQ (ha:SF pa ca ka oa) (h:FOK p c core odd) (i:Int) (hl:(thV pa ca ka oa i).length≤100000) (hb:∀ m,(gT p c core odd m).length≤100000) :
    ∃ r,Ev (fun k=>fE.f k pa ca ka oa p c core odd i) r∧BoS p c core odd (fun m=>meS (gT p c core odd m) (thV pa ca ka oa i)) r:=by
  have hS:=sG ha i;have hso:∀ m,Ex p c core odd m→Ev (fun k=>jf.f k (gT p c core odd m) (thV pa ca ka oa i)) (meS (gT p c core odd m) (thV pa ca ka oa i)):=fun m _=>aei _ _ (by have:=hb m;omega);obtain ⟨r1,a1,a2⟩:=afs (pa:=pa) (ca:=ca) (ka:=ka) (oa:=oa) (γ:=Int × Int × Bool) h (so:=fun m=>meS (gT p c core odd m) (thV pa ca ka oa i)) hS hso (abt h.s hS);obtain ⟨r2,b1,b2⟩:=abq (W:=jf.f) (pa:=pa) (ca:=ca) (ka:=ka) (oa:=oa) (γ:=Int × Int × Bool) h (so:=fun m=>meS (gT p c core odd m) (thV pa ca ka oa i)) hS hso (abt h.s hS);refine ⟨_,?_,abv h a1 b1⟩;unfold fE.f;refine Ev.bind (lG ha i) ?_;simp only [decide_eq_true_eq];refine (a2 _ _ _ (fun e => ?_) (fun j e => ?_)).diag
  · subst e;exact Ev.now _
  · subst e
    refine (b2 _ _ _ (fun e => ?_) (fun j' e => ?_)).diag
    · subst e;exact Ev.now _
    · subst e;exact Ev.now _
theorem zP (ha:SF pa ca ka oa) (h:FOK p c core odd) (i:Int) (hl:(thV pa ca ka oa i).length≤100000) (hb:∀ m,(gT p c core odd m).length≤100000) :
    ∃ r,Ev (fun k=>fF.f k pa ca ka oa p c core odd i) r∧BoS p c core odd (fun m=>inS (gT p c core odd m) (thV pa ca ka oa i)) r:=by
  have hS:=sG ha i;have hso:∀ m,Ex p c core odd m→Ev (fun k=>iB.f k (gT p c core odd m) (thV pa ca ka oa i)) (inS (gT p c core odd m) (thV pa ca ka oa i)):=fun m _=>oP _ _ (by have:=hb m;omega);obtain ⟨r1,a1,a2⟩:=ael (pa:=pa) (ca:=ca) (ka:=ka) (oa:=oa) (γ:=Int × Int × Bool) h (so:=fun m=>inS (gT p c core odd m) (thV pa ca ka oa i)) hS hso (abu h.s hS);obtain ⟨r2,b1,b2⟩:=abq (W:=iB.f) (pa:=pa) (ca:=ca) (ka:=ka) (oa:=oa) (γ:=Int × Int × Bool) h (so:=fun m=>inS (gT p c core odd m) (thV pa ca ka oa i)) hS hso (abu h.s hS);refine ⟨_,?_,abv h a1 b1⟩;unfold fF.f;refine Ev.bind (lG ha i) ?_;simp only [decide_eq_true_eq,abw,abx];refine (a2 _ _ _ (fun e => ?_) (fun j e => ?_)).diag
  · subst e;exact Ev.now _
  · subst e
    refine (b2 _ _ _ (fun e => ?_) (fun j' e => ?_)).diag
    · subst e;exact Ev.now _
    · subst e;exact Ev.now _
end Go.Proofs.YtongeknogcboiaaGreat.Q
