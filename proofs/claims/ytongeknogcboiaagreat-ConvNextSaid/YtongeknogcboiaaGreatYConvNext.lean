/- The law ConvNext: it holds at every input that its row reads. No condition of its own. -/
import Derived.Test.YtongeknogcboiaaGreatYK22
import Derived.Test.YtongeknogcboiaaGreatRows
import Derived.Test.YtongeknogcboiaaGreatYK20
import Derived.WalkKit
import Derived.ProofKit
import Derived.OpenShut
import Derived.ShutString
import Derived.ChangeOld
import Derived.Below
import Derived.SizedLaws
namespace Go.Proofs.YtongeknogcboiaaGreat.Q
set_option linter.unusedVariables false
set_option linter.unusedSimpArgs false
open Go.RowKit Go.Proofs.YtongeknogcboiaaGreatW.gy Go.Proofs.YtongeknogcboiaaGreatW.jh M R P
variable [Inhabited WT]
variable {p c:Int} {core:List (List Sp)} {odd:List Gn} {γ:Type}
theorem aeP (b x T p:Int) (hT : -1099511627777≤T∧T≤1099511627777) (hb : -1099511627776≤b∧b≤1099511627776) (hp:0<p∧p≤1099511627776):Ev (fun k=>jH.f k b x T p) ((T - b) / p):=by
  unfold jH.f;rw [kD (n:=T - b) (by omega) (by omega)];exact Ev.bind (uh (T - b) p (by omega) (by omega)) (Ev.now _)
theorem aci (h:SF p c core odd) (T:Int) (hT : -1099511627777≤T∧T≤1099511627777):∃ r,PlD p c core T r∧∀ (X:Nat→Int→Bool→Option γ) (v:γ),Ev (fun k=>X k r.1 r.2) v →
    Ev (fun k=>fH.l0 (X k) T core (core.length:Int) p c core odd p c core odd p c core odd p c core p c core odd k 0 false 0) v:=by
  have hc:=h.hc;have hl:=h.hl;have loop:∀ (d n:Nat) (a:Int) (ok:Bool),core.length - n=d→n≤core.length →
      (ok=true→∃ j,∃ hj:j<core.length,core[j]≠[]∧a=dnI T p c core[j] j)→(ok=true→∀ j (hj:j<core.length),j<n→core[j]≠[]→dnI T p c core[j] j≤a)→(ok=false→a=0∧∀ j (hj:j<core.length),j<n→core[j]=[]) →
      ∃ r,PlD p c core T r∧∀ (X:Nat→Int→Bool→Option γ) (v:γ),Ev (fun k=>X k r.1 r.2) v→Ev (fun k=>fH.l0 (X k) T core (core.length:Int) p c core odd p c core odd p c core odd p c core p c core odd k a ok (n:Int)) v:=by
    intro d;induction d with
    | zero =>
      intro n a ok hd hn i1 i2 i3;refine ⟨(a,ok),?_,fun X v hX=>Ev.step (fun k=>rfl) ?_⟩
      · cases ok with
        | true =>
          obtain ⟨j,hj,hne,rfl⟩:=i1 rfl;obtain ⟨e1,e2⟩:=vR h ((T - mD core[j]) / p) j hj;have hne':jq c core (dnI T p c core[j] j)≠[]:=by unfold dnI;rw [e1];exact hne
          obtain ⟨b1,b2,b3,b4⟩:=aaX h T hT hj hne;have e3:dnI T p c core[j] j % c=j:=(adG _ c j (by omega) (by omega)).2;have e4:jq c core (dnI T p c core[j] j)=core[j]:=e1;refine ⟨fun _=>⟨hne',(acH h T hne').2 ?_,fun m hm ac => ?_⟩,(fun e=>by cases e),(by simp only [dnI];omega),(by simp only [dnI];omega)⟩
          · simp only [e3,e4];exact Int.le_refl _
          · obtain ⟨_,_,i,hi,f1,f2⟩:=ou h hm
            have g1:=(acH h T hm).1 ac;rw [f1,f2] at g1;have:=i2 rfl i hi (by omega) (by rw [← f2];exact hm);simp only;omega
        | false =>
          obtain ⟨rfl,hz⟩:=i3 rfl;refine ⟨(fun e=>by cases e),(fun _ m=>Classical.byContradiction fun hm => ?_),by simp,by simp⟩;obtain ⟨_,_,i,hi,f1,f2⟩:=ou h hm;exact hm (by rw [f2];exact hz i hi (by omega))
      · have c1:¬ (n:Int)<(core.length:Int):=by omega
        simp only [fH.l0,fH.l0T,decide_eq_true_eq,c1,if_false];exact Ev.shift hX
    | succ d ih =>
      intro n a ok hd hn i1 i2 i3;have hlt:n<core.length:=by omega
      have hw:wq ((n:Int)+1)=((n+1:Nat):Int):=by rw [kD (by omega) (by omega)];simp
      have c1:(n:Int)<(core.length:Int):=by omega
      have c2:(0:Int)≤(n:Int):=by omega
      have ab:=h.hcore _ (List.getElem_mem hlt);have hh:=fun k=>uq k ab;by_cases hz:core[n]=[]
      · obtain ⟨r,r2,r1⟩:=ih (n+1) a ok (by omega) (by omega) i1 (fun e j hj hjn hne=>by
          rcases Nat.lt_or_ge j n with g | g
          · exact i2 e j hj g hne
          · have:j=n:=by omega
            subst this;exact absurd hz hne) (fun e=>⟨(i3 e).1,fun j hj hjn=>by
          rcases Nat.lt_or_ge j n with g | g
          · exact (i3 e).2 j hj g
          · have:j=n:=by omega
            subst this;exact hz⟩)
        refine ⟨r,r2,fun X v hX=>Ev.step (fun k=>rfl) ?_⟩;have hh':∀ k,iR.f k core[n]=some (⟨0,0⟩,false):=fun k=>by rw [hh k];simp [hz]
        simp only [fH.l0,fH.l0T,decide_eq_true_eq,c1,c2,if_true,rdL core n hlt,hh',Option.bind_some,hw];exact Ev.yes (by simp) (r1 (fun k=>X (k+1)) v (Ev.shift hX))
      · obtain ⟨b1,b2,b3,b4⟩:=aaX h T hT hlt hz
        have af:=ab.ends hz;have hp:p≠0:=fun e=>by have:=h.hz.2 e;omega
        have hp0:=h.hp0;have hp1:=h.hp1;have aa:=aeP (mD core[n]) (mE core[n]) T p hT (by omega) (by omega);have eu:(T - mD core[n]) / p*c+n=dnI T p c core[n] n:=rfl;generalize hz1:(T - mD core[n]) / p=z at *;have w1:wq (z*c)=z*c:=kD (by omega) (by omega);have w2:wq (z*c+n)=dnI T p c core[n] n:=by rw [← eu];exact kD (by omega) (by omega)
        have hub : -13194139533336000≤dnI T p c core[n] n∧dnI T p c core[n] n≤13194139533336000:=by rw [← eu];omega
        have take:(ok=true→a≤dnI T p c core[n] n)→∃ r,PlD p c core T r∧∀ (X:Nat→Int→Bool→Option γ) (v:γ),Ev (fun k=>X k r.1 r.2) v→Ev (fun k=>fH.l0 (X k) T core (core.length:Int) p c core odd p c core odd p c core odd p c core p c core odd k (dnI T p c core[n] n) true ((n+1:Nat):Int)) v:=fun hle=>by
          refine ih (n+1) _ true (by omega) (by omega) (fun _=>⟨n,hlt,hz,rfl⟩) (fun _ j hj hjn hne => ?_) (fun e=>by cases e);rcases Nat.lt_or_ge j n with g | g
          · cases ok with
            | true=>have:=i2 rfl j hj g hne;have:=hle rfl;omega
            | false=>exact absurd ((i3 rfl).2 j hj g) hne
          · have:j=n:=by omega
            subst this;exact Int.le_refl _
        simp only [hz,if_false] at hh;by_cases hok:ok=true
        · obtain ⟨j,hj,hne,ea⟩:=i1 hok
          have hab : -13194139533336000≤a∧a≤13194139533336000:=by
            obtain ⟨c1,c2,c3,c4⟩:=aaX h T hT hj hne;rw [ea];unfold dnI;omega
          have w3:wq (wq (dnI T p c core[n] n - a)*(-1))=a - dnI T p c core[n] n:=by rw [kD (n:=dnI T p c core[n] n - a) (by omega) (by omega),kD (by omega) (by omega)];omega
          by_cases hlt2:a - dnI T p c core[n] n<0
          · obtain ⟨r,r2,r1⟩:=take (fun _=>by omega)
            refine ⟨r,r2,fun X v hX=>Ev.step (fun k=>rfl) ?_⟩;simp only [fH.l0,fH.l0T,decide_eq_true_eq,c1,c2,if_true,rdL core n hlt,hh,Option.bind_some,hw];refine Ev.no (by simp [hz]) (Ev.bind aa (Ev.no (by simp [hok]) ?_));rw [w1,w2,w3];exact Ev.yes hlt2 (r1 (fun k=>X (k+1)) v (Ev.shift hX))
          · obtain ⟨r,r2,r1⟩:=ih (n+1) a ok (by omega) (by omega) i1 (fun e j hj hjn hne=>by
              rcases Nat.lt_or_ge j n with g | g
              · exact i2 e j hj g hne
              · have:j=n:=by omega
                subst this;omega) (fun e=>by rw [hok] at e;cases e)
            refine ⟨r,r2,fun X v hX=>Ev.step (fun k=>rfl) ?_⟩;simp only [fH.l0,fH.l0T,decide_eq_true_eq,c1,c2,if_true,rdL core n hlt,hh,Option.bind_some,hw];refine Ev.no (by simp [hz]) (Ev.bind aa (Ev.no (by simp [hok]) ?_));rw [w1,w2,w3];exact Ev.no hlt2 (r1 (fun k=>X (k+1)) v (Ev.shift hX))
        · obtain ⟨r,r2,r1⟩:=take (fun e=>absurd e hok)
          refine ⟨r,r2,fun X v hX=>Ev.step (fun k=>rfl) ?_⟩;simp only [fH.l0,fH.l0T,decide_eq_true_eq,c1,c2,if_true,rdL core n hlt,hh,Option.bind_some,hw];refine Ev.no (by simp [hz]) (Ev.bind aa (Ev.yes (by simpa using hok) ?_));rw [w1,w2];exact r1 (fun k=>X (k+1)) v (Ev.shift hX)
  exact loop _ 0 0 false rfl (by omega) (fun e=>by cases e) (fun e=>by cases e) (fun _=>⟨rfl,fun j hj hjn=>by omega⟩)
theorem aa9 (ho:odd.length≤6000):∀ (rest pre:List Gn),odd=pre++rest→∀ (m:List (Int × Int)),(∀ i,oC m i=sH pre i)→∃ m',(∀ i,oC m' i=sH odd i)∧∀ (c1:Int) (X:Nat→List (Int × Int)→Option γ) (v:γ),Ev (fun k=>X k m') v →
    Ev (fun k=>fH.l2 (X k) c1 odd (odd.length:Int) p c core odd p c core odd p c core odd p c core k (pre.length:Int) m) v:=by
  intro rest;induction rest with
  | nil =>
    intro pre hp m hm;refine ⟨m,fun i=>by rw [hm,hp,List.append_nil],fun c1 X v hX=>Ev.step (fun k=>rfl) ?_⟩;have c1:¬ (pre.length:Int)<(odd.length:Int):=by rw [hp];simp
    simp only [fH.l2,fH.l2T,decide_eq_true_eq,c1,if_false];exact Ev.shift hX
  | cons g r ih =>
    intro pre hp m hm;have hlen:pre.length+1≤odd.length:=by rw [hp];simp
    have hrd:gG odd (pre.length:Int)=g:=by rw [hp];simp [gG]
    have c1:(pre.length:Int)<(odd.length:Int):=by omega
    have c2:(0:Int)≤(pre.length:Int):=by omega
    have hw:=nx c1 c2 (by omega);have hb:=wY pre g.f0;obtain ⟨m',h1,h2⟩:=ih (pre++[g]) (by rw [hp];simp) (sS m g.f0 (wq (oC m g.f0+1))) (fun i=>by
      rw [vU,hm,vV,kD (by omega) (by omega),hm];by_cases e:g.f0=i
      · subst e;simp
      · simp [e])
    refine ⟨m',h1,fun q X v hX=>Ev.step (fun k=>rfl) ?_⟩;have:=h2 q (fun k=>X (k+1)) v (Ev.shift hX);rw [← len1] at this;simp only [fH.l2,fH.l2T,decide_eq_true_eq,c1,c2,if_true,hrd,hw];exact this
theorem uz (h:SF p c core odd) (t:TF p core) (T:Int) (hT:T≤1099511627777) (m:List (Int × Int)) (hm:∀ i,oC m i=sH odd i):∀ (d:Nat) (i:Int) (ok:Bool) (b:Int),
    (ok=true→(i+1099511627777).toNat≤d)→(ok=true→inR i∧jq c core i≠[]∧gLo p c core [] i≤T) →
    (∀ m,Ex p c core [] m→kI odd m=none→gLo p c core [] m≤T→ok=true∧m≤i)→0≤b→b≤2 →
    (1≤b→ok=true→∀ m,m≤i→jq c core m≠[]→gHi p c core [] m≤1099511627776) →
    (2≤b→ok=true→∀ m,m≤i→jq c core m≠[]→gHi p c core [] m < -1099511627776) →
    ∃ r,PnD p c core odd T r∧∀ (X0:Nat→Int→Option γ) (X1:Nat→Option γ) (v:γ),Ev (fun k=>if r.2=true then X0 k r.1 else X1 k) v →
      Ev (fun k=>fH.l3 (X0 k) (X1 k) p c core odd p c core odd p c core odd p c core m k i ok b) v:=by
  have cnt:∀ i,oC m i=0↔kI odd i=none:=fun i=>by rw [hm,vW]
  have stop:∀ (i b:Int) (X0:Nat→Int→Option γ) (X1:Nat→Option γ) (v:γ),Ev (fun k=>if false=true then X0 k 0 else X1 k) v→Ev (fun k=>fH.l3 (X0 k) (X1 k) p c core odd p c core odd p c core odd p c core m k i false b) v:=fun i b X0 X1 v hX=>by
    refine Ev.step (fun k=>rfl) ?_;simp only [fH.l3,fH.l3T,Bool.false_eq_true,if_false] at hX ⊢;exact Ev.shift hX
  intro d;induction d with
  | zero =>
    intro i ok b hd hA hB h0 h2 hC hD;have hok:ok=false:=by
      cases ok with
      | true=>have:=hA rfl;have:=this.1;unfold inR at this;have:=hd rfl;omega
      | false=>rfl
    subst hok;exact ⟨(0,false),⟨(fun e=>by cases e),fun _=>⟨rfl,fun m m1 m2 m3=>by cases (hB m m1 m2 m3).1⟩⟩,stop i b⟩
  | succ d ih =>
    intro i ok b hd hA hB h0 h2 hC hD;cases ok with
    | false=>exact ⟨(0,false),⟨(fun e=>by cases e),fun _=>⟨rfl,fun m m1 m2 m3=>by cases (hB m m1 m2 m3).1⟩⟩,stop i b⟩
    | true =>
      obtain ⟨a1,a2,a3⟩:=hA rfl;have hd:=hd rfl;by_cases hb:b<2
      · obtain ⟨n,n1,n2⟩:=pE h.mP i (by unfold inR at a1;omega)
        have aa:=lJ h.mP i;have next:∀ (b':Int),0≤b'→b'≤2→(∀ m,Ex p c core [] m→kI odd m=none→m≠i) →
            (1≤b'→∀ m,m<i→jq c core m≠[]→gHi p c core [] m≤1099511627776)→(2≤b'→∀ m,m<i→jq c core m≠[]→gHi p c core [] m < -1099511627776) →
            ∃ r,PnD p c core odd T r∧∀ (X0:Nat→Int→Option γ) (X1:Nat→Option γ) (v:γ),Ev (fun k=>if r.2=true then X0 k r.1 else X1 k) v →
              Ev (fun k=>fH.l3 (X0 k) (X1 k) p c core odd p c core odd p c core odd p c core m k n.1 n.2 b') v:=by
          intro b' g0 g2 gi gC gD;unfold inR at a1;refine ih n.1 n.2 b' (fun e => ?_) (fun e => ?_) (fun m m1 m2 m3 => ?_) g0 g2 (fun e1 e2 m hm => ?_) (fun e1 e2 m hm => ?_)
          · have:=(n2.1 e).1;omega
          · obtain ⟨q1,q2,q3,q4⟩:=n2.1 e
            have:=vS h t (i:=n.1) (k:=i) (by omega) q3 a2;have:=adV h q3;exact ⟨q2,q3,by omega⟩
          · have g3:=(hB m m1 m2 m3).2
            have g4:=gi m m1 m2;have g5:=m1.r;cases hn:n.2 with
            | true =>
              refine ⟨rfl,Classical.byContradiction fun hx => ?_⟩;unfold inR at g5;exact m1.n ((n2.1 hn).2.2.2 m (by omega) (by omega))
            | false =>
              exact absurd ((n2.2 hn).2 m (by unfold inR at g5;omega) g5) m1.n
          · have:=(n2.1 e2).1;exact gC e1 m (by omega)
          · have:=(n2.1 e2).1;exact gD e1 m (by omega)
        by_cases hx:Ex p c core [] i
        · rw [h.mP.mV hx] at aa
          by_cases ho:kI odd i=none
          · refine ⟨(i,true),⟨fun _=>⟨hx,ho,a3,fun m m1 m2 m3=>(hB m m1 m2 m3).2⟩,fun e=>by cases e⟩,fun X0 X1 v hX=>Ev.step (fun k=>rfl) ?_⟩
            simp only [fH.l3,fH.l3T,decide_eq_true_eq,hb,if_true];exact Ev.bind aa (Ev.no (by simp) (Ev.yes ((cnt i).2 ho) (by simpa using Ev.shift hX)))
          · obtain ⟨r,r2,r1⟩:=next b h0 h2 (fun m _ m2 e=>ho (by rw [← e];exact m2)) (fun e m hm=>hC e rfl m (by omega)) (fun e m hm=>hD e rfl m (by omega))
            refine ⟨r,r2,fun X0 X1 v hX=>Ev.step (fun k=>rfl) ?_⟩;simp only [fH.l3,fH.l3T,decide_eq_true_eq,hb,if_true];exact Ev.bind aa (Ev.no (by simp) (Ev.no (fun e=>ho ((cnt i).1 e)) (Ev.bind n1 (r1 (fun k=>X0 (k+1)) (fun k=>X1 (k+1)) v (Ev.shift hX)))))
        · rw [h.mP.tZ a2 hx] at aa
          have hw:wq (b+1)=b+1:=kD (by omega) (by omega);obtain ⟨r,r2,r1⟩:=next (b+1) (by omega) (by omega) (fun m m1 _ e=>hx (by rw [← e];exact m1)) (fun _ m hm hmn=>by
              have:=vS h t hm hmn a2;omega) (fun e m hm hmn=>by
              have q1:=vS h t hm hmn a2;have q2:=hC (by omega) rfl i (Int.le_refl _) a2;refine Classical.byContradiction fun hq=>hx ⟨a1,a2,?_,q2⟩;omega)
          refine ⟨r,r2,fun X0 X1 v hX=>Ev.step (fun k=>rfl) ?_⟩;simp only [fH.l3,fH.l3T,decide_eq_true_eq,hb,if_true,hw];exact Ev.bind aa (Ev.yes (by simp) (Ev.bind n1 (r1 (fun k=>X0 (k+1)) (fun k=>X1 (k+1)) v (Ev.shift hX))))
      · refine ⟨(0,false),⟨(fun e=>by cases e),fun _=>⟨rfl,fun m m1 m2 m3 => ?_⟩⟩,fun X0 X1 v hX=>Ev.step (fun k=>rfl) ?_⟩
        · have q1:=hD (by omega) rfl m (hB m m1 m2 m3).2 m1.n
          have q2:=adV h m1.n;have:=m1.lo;omega
        · simp only [fH.l3,fH.l3T,decide_eq_true_eq,hb,if_true,if_false]
          exact Ev.shift hX
theorem rE (h:SF p c core odd) (T:Int):∀ (d n:Nat) (a:Int) (ok:Bool),odd.length - n=d→n≤odd.length →
    (ok=true→Ex p c core odd a∧gLo p c core odd a≤T)→(∀ m,Ex p c core odd m→gLo p c core odd m≤T→(kI odd m=none∨∃ j,∃ hj:j<odd.length,j<n∧odd[j].f0=m)→ok=true∧m≤a)→(ok=false→a=0) →
    ∃ r,Ev (fun k=>fH.l1 (fun y z=>some (y,z)) T odd (odd.length:Int) p c core odd p c core odd k a ok (n:Int)) r∧TlD p c core odd T r:=by
  have hlo:=h.hlo;intro d;induction d with
  | zero =>
    intro n a ok hd hn i1 i2 i3;have c1:¬ (n:Int)<(odd.length:Int):=by omega
    refine ⟨(a,ok),Ev.step (f:=fun _=>some (a,ok)) (fun k=>by simp only [fH.l1,fH.l1T,decide_eq_true_eq,c1,if_false]) (Ev.now _),?_⟩;have all:∀ m,kI odd m=none∨∃ j,∃ hj:j<odd.length,j<n∧odd[j].f0=m:=fun m=>by
      rcases acG (odd:=odd) (m:=m) with g | ⟨j,hj,g⟩
      · exact .inl g
      · exact .inr ⟨j,hj,by omega,g⟩
    cases ok with
    | true=>exact ⟨fun _=>⟨(i1 rfl).1,(i1 rfl).2,fun m m1 m2=>(i2 m m1 m2 (all m)).2⟩,fun e=>by cases e⟩
    | false=>exact ⟨(fun e=>by cases e),fun _=>⟨i3 rfl,fun m m1 m2=>by cases (i2 m m1 m2 (all m)).1⟩⟩
  | succ d ih =>
    intro n a ok hd hn i1 i2 i3;have hlt:n<odd.length:=by omega
    have hw:wq ((n:Int)+1)=((n+1:Nat):Int):=by rw [kD (by omega) (by omega)];simp
    have c1:(n:Int)<(odd.length:Int):=by omega
    have c2:(0:Int)≤(n:Int):=by omega
    have aa:=h.hodd _ (List.getElem_mem hlt);have hh:=fun k=>uq k aa;obtain ⟨e1,e2,e3⟩:=aaW h hlt;have skip:(odd[n].f1=[]∨¬ mD odd[n].f1≤T∨ok=true∧odd[n].f0≤a)→∃ r,Ev (fun k=>fH.l1 (fun y z=>some (y,z)) T odd (odd.length:Int) p c core odd p c core odd k a ok ((n+1:Nat):Int)) r∧TlD p c core odd T r:=fun hs=>by
      refine ih (n+1) a ok (by omega) (by omega) i1 (fun m m1 m2 m3 => ?_) i3;rcases m3 with g | ⟨j,hj,g,g2⟩
      · exact i2 m m1 m2 (.inl g)
      · rcases Nat.lt_or_ge j n with g3 | g3
        · exact i2 m m1 m2 (.inr ⟨j,hj,g3,g2⟩)
        · have:j=n:=by omega
          subst this;subst g2;rcases hs with hs | hs | hs
          · exact absurd (by rw [e1];exact hs) m1.n
          · exact absurd (by rw [← e2];exact m2) hs
          · exact hs
    by_cases hz:odd[n].f1=[]
    · obtain ⟨r,r1,r2⟩:=skip (.inl hz)
      refine ⟨r,Ev.step (fun k=>rfl) ?_,r2⟩;have hh':∀ k,iR.f k odd[n].f1=some (⟨0,0⟩,false):=fun k=>by rw [hh k];simp [hz]
      simp only [fH.l1,fH.l1T,decide_eq_true_eq,c1,c2,if_true,rdG odd n hlt,hh',Option.bind_some,hw];exact Ev.no (by simp) r1
    · have hh':∀ k,iR.f k odd[n].f1=some (⟨mD odd[n].f1,mE odd[n].f1⟩,true):=fun k=>by rw [hh k];simp [hz]
      by_cases hso:mD odd[n].f1≤T
      · have take:(ok=true→a≤odd[n].f0)→∃ r,Ev (fun k=>fH.l1 (fun y z=>some (y,z)) T odd (odd.length:Int) p c core odd p c core odd k odd[n].f0 true ((n+1:Nat):Int)) r∧TlD p c core odd T r:=fun hle=>by
          refine ih (n+1) odd[n].f0 true (by omega) (by omega) (fun _=>⟨acF h hlt hz,by rw [e2];exact hso⟩) (fun m m1 m2 m3=>⟨rfl,?_⟩) (fun e=>by cases e);rcases m3 with g | ⟨j,hj,g,g2⟩
          · obtain ⟨q1,q2⟩:=i2 m m1 m2 (.inl g);have:=hle q1;omega
          · rcases Nat.lt_or_ge j n with g3 | g3
            · obtain ⟨q1,q2⟩:=i2 m m1 m2 (.inr ⟨j,hj,g3,g2⟩);have:=hle q1;omega
            · have:j=n:=by omega
              subst this;subst g2;exact Int.le_refl _
        by_cases hok:ok=true
        · have hr1:=(i1 hok).1.r
          have hr2:=h.hidx _ (List.getElem_mem hlt);unfold inR at hr1 hr2;have w3:wq (wq (odd[n].f0 - a)*(-1))=a - odd[n].f0:=by rw [kD (n:=odd[n].f0 - a) (by omega) (by omega),kD (by omega) (by omega)];omega
          by_cases hlt2:a - odd[n].f0<0
          · obtain ⟨r,r1,r2⟩:=take (fun _=>by omega)
            refine ⟨r,Ev.step (fun k=>rfl) ?_,r2⟩;simp only [fH.l1,fH.l1T,jv.f,decide_eq_true_eq,c1,c2,if_true,rdG odd n hlt,hh',Option.bind_some,hw,w3];exact Ev.yes hso (Ev.no (by simp [hok]) (Ev.yes hlt2 r1))
          · obtain ⟨r,r1,r2⟩:=skip (.inr (.inr ⟨hok,by omega⟩))
            refine ⟨r,Ev.step (fun k=>rfl) ?_,r2⟩;simp only [fH.l1,fH.l1T,jv.f,decide_eq_true_eq,c1,c2,if_true,if_false,rdG odd n hlt,hh',Option.bind_some,hw,w3];exact Ev.yes hso (Ev.no (by simp [hok]) (Ev.no hlt2 r1))
        · obtain ⟨r,r1,r2⟩:=take (fun e=>absurd e hok)
          refine ⟨r,Ev.step (fun k=>rfl) ?_,r2⟩;simp only [fH.l1,fH.l1T,jv.f,decide_eq_true_eq,c1,c2,if_true,rdG odd n hlt,hh',Option.bind_some,hw];exact Ev.yes hso (Ev.yes (by simpa using hok) r1)
      · obtain ⟨r,r1,r2⟩:=skip (.inr (.inl hso))
        refine ⟨r,Ev.step (fun k=>rfl) ?_,r2⟩;simp only [fH.l1,fH.l1T,jv.f,decide_eq_true_eq,c1,c2,if_true,rdG odd n hlt,hh',Option.bind_some,hw];exact Ev.no hso r1
theorem adM (h:FOK p c core odd) (t:Int):∃ r,Ev (fun k=>fH.f k p c core odd t) r∧TlD p c core odd t r:=by
  have hcl:=aeJ t;have hmm:mx (mn t 1099511627777) (-1099511627777)=cl t:=rfl;have near:∀ a:Int × Bool,PnD p c core odd (cl t) a→∃ r,Ev (fun k=>fH.l1 (fun y z=>some (y,z)) (cl t) odd (odd.length:Int) p c core odd p c core odd k a.1 a.2 ((0:Nat):Int)) r∧TlD p c core odd (cl t) r:=fun a a2 =>
    rE h.s (cl t) _ 0 a.1 a.2 rfl (by omega) (fun e=>by
      obtain ⟨q1,q2,q3,q4⟩:=a2.y e;exact ⟨(p8 q2).2 q1,by rw [(rC q2).2.1];exact q3⟩) (fun m m1 m2 m3=>by
      rcases m3 with g | ⟨j,hj,g,_⟩
      · have aa:=m2
        rw [(rC g).2.1] at aa;cases ha:a.2 with
        | true=>exact ⟨rfl,(a2.y ha).2.2.2 m ((p8 g).1 m1) g aa⟩
        | false=>exact absurd aa ((a2.n ha).2 m ((p8 g).1 m1) g)
      · omega) (fun e=>(a2.n e).1)
  have tr:∀ m,Ex p c core odd m→(gLo p c core odd m≤t↔gLo p c core odd m≤cl t):=fun m e=>by
    have:=e.lo;have:=e.hi;have:=h.s.mq e.n;omega
  have fin:∀ r,TlD p c core odd (cl t) r→TlD p c core odd t r:=fun r r2=>⟨fun e=>by
    obtain ⟨q1,q2,q3⟩:=r2.y e;exact ⟨q1,(tr _ q1).2 q2,fun m m1 m2=>q3 m m1 ((tr m m1).1 m2)⟩,fun e=>⟨(r2.n e).1,fun m m1 m2=>(r2.n e).2 m m1 ((tr m m1).1 m2)⟩⟩
  simp only [fH.f,hmm];obtain ⟨a,a2,a1⟩:=aci (γ:=Int × Bool) h.s (cl t) (by omega);have hf:Ev (fun k=>ko.f k) ():=Ev.congr (f:=fun _=>some ()) (fun k=>rfl) (Ev.now _);have b1:=a2.lo;have b2:=a2.hi;cases ha:a.2 with
  | false =>
    obtain ⟨r,r1,r2⟩:=near (0,false) ⟨(fun e=>by cases e),fun _=>⟨rfl,fun m m1 _ _=>m1.n (a2.n ha m)⟩⟩;exact ⟨r,Ev.bind hf (a1 _ r (Ev.yes (by simp [ha]) r1)),fin r r2⟩
  | true =>
    obtain ⟨q1,q2,q3⟩:=a2.y ha;have hw:wq (a.1 - (-1))=a.1+1:=by rw [kD (by omega) (by omega)];omega
    obtain ⟨n,n1,n2⟩:=pE h.s.mP (a.1+1) (by omega);obtain ⟨m,m1,m2⟩:=aa9 (γ:=Int × Bool) (p:=p) (c:=c) (core:=core) (odd:=odd) h.s.hlo odd [] rfl [] (fun i=>by simp [oC,sH]);obtain ⟨s,s2,s1⟩:=uz (γ:=Int × Bool) h.s h.t (cl t) (by omega) m m1 (n.1+1099511627777).toNat n.1 n.2 0 (fun _=>Nat.le_refl _) (fun e=>by
      obtain ⟨g1,g2,g3,g4⟩:=n2.1 e;refine ⟨g2,g3,?_⟩;rcases Int.lt_trichotomy a.1 n.1 with g | g | g
      · omega
      · rw [← g];exact q2
      · have:=vS h.s h.t g g3 q1
        have:=adV h.s g3;omega) (fun m m1 m2 m3=>by
      have g3:=q3 m m1.n m3;have g5:=m1.r;cases hn:n.2 with
      | true =>
        refine ⟨rfl,Classical.byContradiction fun hx => ?_⟩;unfold inR at g5;exact m1.n ((n2.1 hn).2.2.2 m (by omega) (by omega))
      | false=>exact absurd ((n2.2 hn).2 m (by unfold inR at g5;omega) g5) m1.n) (by omega) (by omega) (fun e=>by omega) (fun e=>by omega)
    obtain ⟨r,r1,r2⟩:=near s s2;refine ⟨r,Ev.bind hf (a1 _ r (Ev.no (by simp [ha]) (m2 _ _ r ?_))),fin r r2⟩;simp only [hw];refine Ev.bind n1 (s1 (fun k y=>fH.l1 (fun y z=>some (y,z)) (cl t) odd (odd.length:Int) p c core odd p c core odd k y true 0) (fun k=>fH.l1 (fun y z=>some (y,z)) (cl t) odd (odd.length:Int) p c core odd p c core odd k 0 false 0) r ?_);cases hs:s.2 with
    | true=>rw [hs] at r1;simpa using r1
    | false=>rw [hs,(s2.n hs).1] at r1;simpa using r1
end Go.Proofs.YtongeknogcboiaaGreat.Q
namespace Go.Proofs.YtongeknogcboiaaGreat.Q
set_option linter.unusedVariables false
set_option linter.unusedSimpArgs false
open Go.RowKit Go.Proofs.YtongeknogcboiaaGreatW.gy Go.Proofs.YtongeknogcboiaaGreatW.jh M R P
section
variable {p c:Int} {core:List (List Sp)} {odd:List Gn}
def NxU (p c:Int) (core:List (List Sp)) (odd:List Gn) (i:Int) (r:Int × Bool):Prop :=
  (r.2=true→Ex p c core odd r.1∧i<r.1∧∀ m,Ex p c core odd m→i<m→r.1≤m)∧(r.2=false→r.1=0∧∀ m,Ex p c core odd m→m≤i)
def NxD (p c:Int) (core:List (List Sp)) (odd:List Gn) (i:Int) (r:Int × Bool):Prop :=
  (r.2=true→Ex p c core odd r.1∧r.1<i∧∀ m,Ex p c core odd m→m<i→m≤r.1)∧(r.2=false→r.1=0∧∀ m,Ex p c core odd m→i≤m)
def thV (p c:Int) (core:List (List Sp)) (odd:List Gn) (i:Int):List Sp:=(mQ p c core odd i).1
theorem sI (h:FOK p c core odd) {i j k:Int} (hi:Ex p c core odd i) (hk:Ex p c core odd k) (h1:i≤j) (h2:j≤k) (hr:inR j) (hn:fs c core odd j≠[]):Ex p c core odd j:=by
  rcases Int.lt_or_le i j with g | g
  · rcases Int.lt_or_le j k with q | q
    · have a:=h.ord i j g hi.r hr hi.n hn
      have b:=h.ord j k q hr hk.r hn hk.n;have:=hi.lo;have:=hk.hi;have:=h.s.mq hi.n;have:=h.s.mq hk.n;exact ⟨hr,hn,by omega,by omega⟩
    · have:j=k:=by omega
      rw [this];exact hk
  · have:j=i:=by omega
    rw [this];exact hi
theorem zC (h:SF p c core odd) (i:Int):(Ex p c core odd i∧mQ p c core odd i=(gT p c core odd i,0)∧gT p c core odd i≠[])∨(¬ Ex p c core odd i∧(mQ p c core odd i).1=[]):=by
  by_cases e:Ex p c core odd i
  · exact .inl ⟨e,h.mV e,(nW e.n).1⟩
  · refine .inr ⟨e,?_⟩
    by_cases hn:fs c core odd i=[]
    · unfold mQ;split
      · simp [hn]
      · rfl
    · rw [h.tZ hn e]
theorem zD (k:Nat):@fO.f wtT (k+100)=some true:=by kernel_rfl
end
variable [Inhabited WT]
variable {p c:Int} {core:List (List Sp)} {odd:List Gn}
theorem abb (h:FOK p c core odd):∃ a b,Ev (fun k=>jW.f k p c core odd) (a.1,b.1,a.2)∧FrU p c core odd (-1099511627776) a∧TlD p c core odd 1099511627776 b∧(a.2=true→b.2=true):=by
  obtain ⟨a,a1,a2⟩:=adL h (-1099511627776);obtain ⟨b,b1,b2⟩:=adM h 1099511627776;refine ⟨a,b,?_,a2,b2,fun e => ?_⟩
  · unfold jW.f
    exact Ev.bind a1 (Ev.bind b1 (Ev.now _))
  · obtain ⟨q1,_,_⟩:=a2.y e
    cases hb:b.2 with
    | true=>rfl
    | false =>
      have:=h.s.mq q1.n;have:=q1.hi;exact absurd (show gLo p c core odd a.1≤1099511627776 by omega) ((b2.n hb).2 _ q1)
theorem abd (h:FOK p c core odd) (i:Int) (hi : -9223372036854775808≤i∧i≤9223372036854775807):∃ r,Ev (fun k=>jN.f k p c core odd i) r∧NxU p c core odd i r:=by
  obtain ⟨a,b,ab,a2,b2,hab⟩:=abb h;simp only [jN.f,decide_eq_true_eq];have all:∀ m,Ex p c core odd m→a.2=true∧b.2=true∧a.1≤m∧m≤b.1:=fun m hm=>by
    have l1:=h.s.mq hm.n;have l2:=hm.lo;have l3:=hm.hi;have e1:a.2=true:=by
      cases ha:a.2 with
      | true=>rfl
      | false=>exact absurd (show -1099511627776≤gHi p c core odd m by omega) ((a2.n ha).2 m hm)
    exact ⟨e1,hab e1,(a2.y e1).2.2 m hm (by omega),(b2.y (hab e1)).2.2 m hm (by omega)⟩
  cases ha:a.2 with
  | false=>exact ⟨(0,false),Ev.bind ab (Ev.yes (by simp [ha]) (Ev.now _)),(fun e=>by cases e),fun _=>⟨rfl,fun m hm=>by have:=(all m hm).1;rw [ha] at this;cases this⟩⟩
  | true =>
    have hb:=hab ha;obtain ⟨x1,x2,x3⟩:=a2.y ha;obtain ⟨y1,y2,y3⟩:=b2.y hb;by_cases c1:i≥b.1
    · exact ⟨(0,false),Ev.bind ab (Ev.no (by simp [ha]) (Ev.yes c1 (Ev.now _))),(fun e=>by cases e),fun _=>⟨rfl,fun m hm=>by have:=all m hm;omega⟩⟩
    · by_cases c2:i<a.1
      · exact ⟨(a.1,true),Ev.bind ab (Ev.no (by simp [ha]) (Ev.no c1 (Ev.yes c2 (Ev.now _)))),fun _=>⟨x1,c2,fun m hm _=>(all m hm).2.2.1⟩,fun e=>by cases e⟩
      · obtain ⟨r,r1,r2⟩:=pz h.s i hi
        have ar:=x1.r;have br:=y1.r;unfold inR at ar br;cases hr:r.2 with
        | false=>exact absurd ((r2.2 hr).2 b.1 (by omega) y1.r) y1.n
        | true =>
          obtain ⟨q1,q2,q3,q4⟩:=r2.1 hr;have q5:r.1≤b.1:=Classical.byContradiction fun hx=>y1.n (q4 b.1 (by omega) (by omega));refine ⟨r,Ev.bind ab (Ev.no (by simp [ha]) (Ev.no c1 (Ev.no c2 (Ev.bind (f:=fun _ a=>some (a.1,a.2)) r1 (Ev.now _))))),fun _=>⟨sI h x1 y1 (by omega) q5 q2 q3,by omega,fun m hm hm2=>Classical.byContradiction fun hx=>hm.n (q4 m ?_ (by omega))⟩,fun e=>by rw [hr] at e;cases e⟩;have:=hm.r;unfold inR at this;omega
theorem wZ (h:FOK p c core odd) (i:Int) (hi : -9223372036854775808≤i∧i≤9223372036854775807):∃ r,Ev (fun k=>jS.f k p c core odd i) r∧NxD p c core odd i r:=by
  obtain ⟨a,b,ab,a2,b2,hab⟩:=abb h;simp only [jS.f,decide_eq_true_eq];have all:∀ m,Ex p c core odd m→a.2=true∧b.2=true∧a.1≤m∧m≤b.1:=fun m hm=>by
    have l1:=h.s.mq hm.n;have l2:=hm.lo;have l3:=hm.hi;have e1:a.2=true:=by
      cases ha:a.2 with
      | true=>rfl
      | false=>exact absurd (show -1099511627776≤gHi p c core odd m by omega) ((a2.n ha).2 m hm)
    exact ⟨e1,hab e1,(a2.y e1).2.2 m hm (by omega),(b2.y (hab e1)).2.2 m hm (by omega)⟩
  cases ha:a.2 with
  | false=>exact ⟨(0,false),Ev.bind ab (Ev.yes (by simp [ha]) (Ev.now _)),(fun e=>by cases e),fun _=>⟨rfl,fun m hm=>by have:=(all m hm).1;rw [ha] at this;cases this⟩⟩
  | true =>
    have hb:=hab ha;obtain ⟨x1,x2,x3⟩:=a2.y ha;obtain ⟨y1,y2,y3⟩:=b2.y hb;by_cases c1:i≤a.1
    · exact ⟨(0,false),Ev.bind ab (Ev.no (by simp [ha]) (Ev.yes c1 (Ev.now _))),(fun e=>by cases e),fun _=>⟨rfl,fun m hm=>by have:=all m hm;omega⟩⟩
    · by_cases c2:i>b.1
      · exact ⟨(b.1,true),Ev.bind ab (Ev.no (by simp [ha]) (Ev.no c1 (Ev.yes c2 (Ev.now _)))),fun _=>⟨y1,c2,fun m hm _=>(all m hm).2.2.2⟩,fun e=>by cases e⟩
      · obtain ⟨r,r1,r2⟩:=pE h.s i hi
        have ar:=x1.r;have br:=y1.r;unfold inR at ar br;cases hr:r.2 with
        | false=>exact absurd ((r2.2 hr).2 a.1 (by omega) x1.r) x1.n
        | true =>
          obtain ⟨q1,q2,q3,q4⟩:=r2.1 hr;have q5:a.1≤r.1:=Classical.byContradiction fun hx=>x1.n (q4 a.1 (by omega) (by omega));refine ⟨r,Ev.bind ab (Ev.no (by simp [ha]) (Ev.no c1 (Ev.no c2 (Ev.bind (f:=fun _ a=>some (a.1,a.2)) r1 (Ev.now _))))),fun _=>⟨sI h x1 y1 q5 (by omega) q2 q3,by omega,fun m hm hm2=>Classical.byContradiction fun hx=>hm.n (q4 m ?_ (by omega))⟩,fun e=>by rw [hr] at e;cases e⟩;have:=hm.r;unfold inR at this;omega
theorem acj (h:SF p c core odd) (i:Int):Ev (fun k=>jc.f k p c core odd i) (thV p c core odd i):=by
  unfold jc.f;exact Ev.bind (lJ h i) (Ev.now _)
theorem abe (h:SF p c core odd) (i:Int):∃ q,Ev (fun k=>jo.f k p c core odd i) q∧(q.2=true→Ex p c core odd i∧q.1.f0=gLo p c core odd i∧q.1.f1=gHi p c core odd i)∧(q.2=false→¬ Ex p c core odd i∧q.1=⟨0,0⟩):=by
  have hl:=yF h i;refine ⟨(⟨(qZ (thV p c core odd i)).1,(qZ (thV p c core odd i)).2.1⟩,(qZ (thV p c core odd i)).2.2),?_,?_⟩
  · unfold jo.f
    refine Ev.bind (acj h i) ?_;simp only [acK _ (thV p c core odd i) hl,Option.bind_some];exact Ev.now _
  · unfold thV
    rcases zC h i with ⟨e,e1,e2⟩ | ⟨e,e1⟩
    · rw [e1,yC]
      simp only [e2,if_false];exact ⟨fun _=>⟨e,(nW e.n).2.1,(nW e.n).2.2⟩,fun x=>by cases x⟩
    · rw [e1]
      exact ⟨fun x=>by simp [qZ] at x,fun _=>⟨e,rfl⟩⟩
theorem p9:Ev (fun k=>fO.f k) true:=⟨100,fun k hk=>by
  obtain ⟨j,rfl⟩:=Nat.exists_eq_add_of_le' hk;rename_i i;rw [ad8 i wtT];exact zD j⟩
end Go.Proofs.YtongeknogcboiaaGreat.Q
namespace Go.Proofs.YtongeknogcboiaaGreat.U
set_option linter.unusedVariables false
set_option linter.unusedSimpArgs false
open Go.RowKit Go.Proofs.YtongeknogcboiaaGreatW.gy Go.Proofs.YtongeknogcboiaaGreatW.jh M R P Q
theorem acn [Inhabited WT] (p c:Int) (core:List (List Sp)) (odd:List Gn) (ff:ab8 p c core odd) (i:Int) (hi:fits i):∃ k,fq.f k p c core odd i=some true:=by
  refine Ev.rounds ?_;unfold fq.f;obtain ⟨b,b1,b2⟩:=zB (p:=p) (c:=c) ff.mf;refine Ev.bind b1 ?_;cases b with
  | false=>exact Ev.yes rfl (Ev.bind p9 (Ev.now _))
  | true =>
    refine Ev.no (by simp) ?_;obtain ⟨h,_⟩:=b2 rfl;have hi' : -9223372036854775808≤i∧i≤9223372036854775807:=adH hi;obtain ⟨r,r1,ry,rn⟩:=abd h i hi';obtain ⟨u,u1,uy,un⟩:=abd h 1099511627776 (by omega);obtain ⟨d,d1,dy,dn⟩:=wZ h (-1099511627776) (by omega);obtain ⟨j,j1,jy,jn⟩:=wZ h i hi';have hu:u.2=false:=by
      cases e:u.2 with
      | false=>rfl
      | true=>have:=(uy e).1.r;have:=(uy e).2.1;unfold inR at *;omega
    have hd:d.2=false:=by
      cases e:d.2 with
      | false=>rfl
      | true=>have:=(dy e).1.r;have:=(dy e).2.1;unfold inR at *;omega
    have gj:=lJ h.s j.1;have l2:∀ (X0:Bool→Int→Int→List (List Sp)→List Gn→Int→Int→Option Bool) (X1:Int→Int→List (List Sp)→List Gn→Int→Int→Option Bool) (x y:Int),(∀ a b c d e f g,X0 a b c d e f g=some a)→Ev (fun k=>fq.l2 X0 X1 k p c core odd x y) true:=fun X0 X1 x y hX=>by
      unfold fq.l2;refine Ev.bind u1 (Ev.bind d1 (Ev.yes (by simp [hu]) (Ev.yes (by simp [hd]) (Ev.bind p9 ?_))));rw [hX];exact Ev.now _
    have l4:∀ (X0:Bool→Int→Int→List (List Sp)→List Gn→Option Bool) (X1:Int→Int→List (List Sp)→List Gn→Option Bool),(∀ a b c d e,X0 a b c d e=some a)→Ev (fun k=>fq.l4 X0 X1 k p c core odd) true:=fun X0 X1 hX=>by
      unfold fq.l4;refine Ev.bind u1 (Ev.bind d1 (Ev.yes (by simp [hu]) (Ev.yes (by simp [hd]) (Ev.bind p9 ?_))));rw [hX];exact Ev.now _
    have l1:∀ (X0:Int→Int→List (List Sp)→List Gn→Int→Int→Option Bool) (X1:Bool→Int→Int→List (List Sp)→List Gn→Int→Int→Option Bool) (x y:Int),(∀ a b c d e f g,X1 a b c d e f g=some a)→Ev (fun k=>fq.l1 X0 X1 k i p c core odd x y) true:=fun X0 X1 x y hX=>by
      unfold fq.l1;refine Ev.bind j1 (Ev.bind gj ?_);cases e:j.2 with
      | true =>
        obtain ⟨q1,q2,q3⟩:=jy e;rw [h.s.mV q1];have hl:=List.length_pos_iff.2 (nW (p:=p) q1.n).1;exact Ev.yes rfl (Ev.no (by simp;omega) (Ev.no (by simp) (Ev.no (by simpa using (nW (p:=p) q1.n).1) (Ev.no (by simp) (l2 _ _ _ _ hX)))))
      | false=>exact Ev.no (by simp) (Ev.yes (by simp) (Ev.no (by simp [(jn e).1]) (l2 _ _ _ _ hX)))
    have l3:∀ (X0:Int→Int→List (List Sp)→List Gn→Option Bool) (X1:Bool→Int→Int→List (List Sp)→List Gn→Option Bool),(∀ a b c d e,X1 a b c d e=some a)→Ev (fun k=>fq.l3 X0 X1 k i p c core odd) true:=fun X0 X1 hX=>by
      unfold fq.l3;refine Ev.bind j1 (Ev.bind gj ?_);cases e:j.2 with
      | true =>
        obtain ⟨q1,q2,q3⟩:=jy e;rw [h.s.mV q1];exact Ev.yes rfl (Ev.no (by simp;omega) (Ev.no (by simp) (Ev.no (by simpa using (nW (p:=p) q1.n).1) (Ev.no (by simp) (l4 _ _ hX)))))
      | false=>exact Ev.no (by simp) (Ev.yes (by simp) (Ev.no (by simp [(jn e).1]) (l4 _ _ hX)))
    refine Ev.bind r1 (Ev.bind (lJ h.s r.1) ?_);have l0:∀ (X0:Int→Int→List (List Sp)→List Gn→Int→Int→Option Bool) (X1:Bool→Int→Int→List (List Sp)→List Gn→Int→Int→Option Bool) (X2:Int→Int→List (List Sp)→List Gn→Option Bool) (X3:Bool→Int→Int→List (List Sp)→List Gn→Option Bool),(∀ a b c d e f g,X1 a b c d e f g=some a)→(∀ a b c d e,X3 a b c d e=some a)→Ev (fun k=>fq.l0 X0 X1 X2 X3 k i r.1 r.2 p c core odd) true:=fun X0 X1 X2 X3 hX1 aa=>by
      unfold fq.l0;cases e:r.2 with
      | false=>exact Ev.no (by simp) (l3 _ _ aa)
      | true =>
        refine Ev.yes rfl ?_;obtain ⟨q1,q2,q3⟩:=ry e;have hr1:=q1.r;unfold inR at hr1;obtain ⟨t,t1,ty,tn⟩:=wZ h r.1 (by omega);obtain ⟨x,x1,xy,xn⟩:=abe h.s i;refine Ev.bind t1 (Ev.bind x1 ?_);have hle:t.2=true→t.1≤i:=fun e=>Classical.byContradiction fun hx=>by
          have:=q3 t.1 (ty e).1 (by omega);have:=(ty e).2.1;omega
        have here:x.2=true→t.2=true∧t.1=i∧x.1.f0≤x.1.f1:=fun e=>by
          obtain ⟨z1,z2,z3⟩:=xy e;have e2:t.2=true:=by
            cases e2:t.2 with
            | true=>rfl
            | false=>have:=(tn e2).2 i z1;omega
          have:=(ty e2).2.2 i z1 q2;have:=hle e2;exact ⟨e2,by omega,by rw [z2,z3];exact h.s.mq z1.n⟩
        cases e2:t.2 with
        | true =>
          refine Ev.yes rfl (Ev.no (by have:=hle e2;simp;omega) ?_);cases e3:x.2 with
          | true =>
            obtain ⟨z1,z2,z3⟩:=here e3;exact Ev.yes rfl (Ev.no (by simp) (Ev.no (by simp [z2]) (Ev.no (by simp;omega) (l1 _ _ _ _ hX1))))
          | false=>exact Ev.no (by simp) (l1 _ _ _ _ hX1)
        | false =>
          refine Ev.no (by simp) ?_;cases e3:x.2 with
          | true=>have:=(here e3).1;rw [e2] at this;cases this
          | false=>exact Ev.no (by simp) (l1 _ _ _ _ hX1)
    cases e:r.2 with
    | true =>
      obtain ⟨q1,q2,q3⟩:=ry e;rw [h.s.mV q1];rw [e] at l0;exact Ev.yes rfl (Ev.no (by simp;omega) (Ev.no (by simp) (Ev.no (by simpa using (nW (p:=p) q1.n).1) (Ev.no (by simp) (l0 _ _ _ _ (fun _ _ _ _ _ _ _=>rfl) (fun _ _ _ _ _=>rfl))))))
    | false =>
      rw [e] at l0;exact Ev.no (by simp) (Ev.yes (by simp) (Ev.no (by simp [(rn e).1]) (l0 _ _ _ _ (fun _ _ _ _ _ _ _=>rfl) (fun _ _ _ _ _=>rfl))))
end Go.Proofs.YtongeknogcboiaaGreat.U
namespace Go.Proofs.YtongeknogcboiaaGreat.yG
open Go.ChangeShapes Go.WideShapes Go.ChangeAt Go.RowKit
open Go.ChangeMaps (open_string shut_string)
set_option linter.unusedVariables false
theorem own:ownKnob Tryz.prog.godebug=none:=by kernel_rfl
theorem laidOut:laidOutB Tryz.prog=true:=by kernel_rfl
set_option maxRecDepth 100000 in
theorem lifted (os:Os) (started:os.Started) (H:Type) (enc:TypeId × Value→H) :
    ReturnsInHanded {} Tryz.checked os 7 .any (Rows.convNextSpec.pre6 enc Tryz.prog Tryz.f7 Rows.convNextRow.domain false) (Rows.convNextSpec.post enc Tryz.prog Tryz.f7 false true false false):=by
  refine returnsInHanded_of_change_sized (C:=Tryz.checked) own started (by kernel_rfl) Tryz.func7
    (ChangeSpec.witness6 (enc:=enc) (C:=Tryz.checked) false ⟨#[],#[.agg #[.int .i64 0,.int .i64 0,.slice none 0 0,.slice none 0 0],.int .i64 0],[]⟩ 8 (by kernel_rfl) (by kernel_rfl) (by kernel_rfl) (by kernel_rfl)) ?_
  intro W base args ds gs before hval0 hW hcnd hsz0 _;have hval:∀ (j:Nat) t v,Tryz.f7.params[j]? = some t→args[j]? = some v→Value.okWide Tryz.prog W .any base t v:=hval0;have hW':=hW;obtain ⟨p,q,ah,hV,rfl,hfz,hnd⟩:=hW;have hA:DataW.TrodAll enc Tryz.prog W 0 (fun _=>true) true Tryz.f7.params.toList args.toList ds p:=ah;rw [Tryz.params7] at hA hval;obtain ⟨v0,au,d0,ds0,p0,q0,hargs,rfl,rfl,h0,r0⟩:=trodAll_cons hA;obtain ⟨v1,vs1,d1,ds1,p1,q1,rfl,rfl,rfl,h1,r1⟩:=trodAll_cons r0;obtain ⟨rfl,rfl,rfl⟩:=trodAll_nil r1;obtain rfl:args=#[v0,v1]:=by cases args;simp_all
  obtain ⟨rfl,rfl⟩:=trodVars_none hV;have k0:=h0;have ak:∀ x∈p0,x.block<W.heap.size:=by obtain ⟨m,hm⟩:=k0;exact DataW.trod_lt m _ _ _ hm
  obtain ⟨aa,ab,aw,ax,ac,ay,az,af,rfl,al,am,ao,ap,aq⟩:=P.aaO (hval 0 25 v0 rfl rfl) h0;obtain ⟨a1,rfl,rfl,rfl,w1⟩:=open_int Tryz.underlying3 (hval 1 3 v1 rfl rfl) h1;clear ah hval0 hsz0;obtain ⟨kk,hP⟩:=U.acn aa ab ac af aq a1 w1;refine (M.aaL (R.fq.ok kk) (W:=W) (a:=((⟨aa,ab,ac,af⟩:P.S25),a1,())) (vs:=[.agg #[.int .i64 aa,.int .i64 ab,.slice _ ac.length _,.slice _ af.length _],.int .i64 a1]) ⟨⟨_,M.fm0 _ _ al am ao ap,rfl⟩,⟨⟨_,rfl,rfl⟩,trivial⟩⟩ hP).mono fun e W' ⟨he,aj⟩ => ?_;have ai:=aj;subst he;exact ⟨_,rfl,_,_,_,[],_,[],hW',trodAll_mk1 (shut_bool Tryz.underlying4 _),(trodAll_cons_mk (Below.trod laidOut (by kernel_rfl) (of_decide_eq_true (by kernel_rfl)) k0 ai ak) (trodAll_cons_mk (shut_int Tryz.underlying3 w1) trodAll_mk0)),rfl,ai.frame _,fun h=>by cases h⟩
theorem over:Rows.convNextRow.holds Tryz.pinned (OpenSpec.ofChange Rows.convNextSpec) :=
  OpenClaim.holds_of_wide 7 Tryz.f7 rfl rfl rfl rfl rfl rfl rfl ⟨rfl,rfl,rfl,rfl,rfl⟩ rfl rfl rfl rfl rfl (by kernel_rfl) Tryz.func7 (by kernel_rfl)
    (of_decide_eq_true (by kernel_rfl)) (by unfold Func.isWrapper;first | (rw [if_pos (by decide +kernel)];kernel_rfl) | (rw [if_neg (by decide +kernel)];exact ⟨rfl,rfl⟩))
    (fun os started H enc _=>lifted os started H enc)
theorem proved:Rows.ConvNextSaid:=over
#print axioms proved
end Go.Proofs.YtongeknogcboiaaGreat.yG
namespace Go.Proofs.YtongeknogcboiaaGreat
theorem convNext_holds:Rows.ConvNextSaid:=yG.proved
end Go.Proofs.YtongeknogcboiaaGreat
