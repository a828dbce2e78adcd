/- Lemmas for laws of chapter 7: what the functions that they reach compute. No condition of its own. -/
import Derived.Test.YtongeknogcboiaaGreatYW17
import Derived.Test.YtongeknogcboiaaGreatYW16
namespace Go.Proofs.YtongeknogcboiaaGreat.Q
set_option linter.unusedVariables false
set_option linter.unusedSimpArgs false
open Go.RowKit Go.Proofs.YtongeknogcboiaaGreatW.fP Go.Proofs.YtongeknogcboiaaGreatW.iD M R P
variable [Inhabited WT]
variable {p c:Int} {core:List (List Sp)} {odd:List Gn} {γ:Type}
theorem afm (b x T p:Int) (hT : -1099511627777≤T∧T≤1099511627777) (hb : -1099511627776≤b∧b≤1099511627776) (hp:0<p∧p≤1099511627776):Ev (fun k=>jk.f k b x T p) ((T - b) / p):=by
  unfold jk.f;rw [je (n:=T - b) (by omega) (by omega)];exact Ev.bind (uj (T - b) p (by omega) (by omega)) (Ev.now _)
theorem acN (h:SF p c core odd) (T:Int) (hT : -1099511627777≤T∧T≤1099511627777):∃ r,PlD p c core T r∧∀ (X:Nat→Int→Bool→Option γ) (v:γ),Ev (fun k=>X k r.1 r.2) v →
    Ev (fun k=>fJ.l0 (X k) T core (core.length:Int) p c k 0 false 0) v:=by
  have hc:=h.hc;have hl:=h.hl;have loop:∀ (d n:Nat) (a:Int) (ok:Bool),core.length - n=d→n≤core.length →
      (ok=true→∃ j,∃ hj:j<core.length,core[j]≠[]∧a=dnI T p c core[j] j)→(ok=true→∀ j (hj:j<core.length),j<n→core[j]≠[]→dnI T p c core[j] j≤a)→(ok=false→a=0∧∀ j (hj:j<core.length),j<n→core[j]=[]) →
      ∃ r,PlD p c core T r∧∀ (X:Nat→Int→Bool→Option γ) (v:γ),Ev (fun k=>X k r.1 r.2) v→Ev (fun k=>fJ.l0 (X k) T core (core.length:Int) p c k a ok (n:Int)) v:=by
    intro d;induction d with
    | zero =>
      intro n a ok hd hn i1 i2 i3;refine ⟨(a,ok),?_,fun X v hX=>Ev.step (fun k=>rfl) ?_⟩
      · cases ok with
        | true =>
          obtain ⟨j,hj,hne,rfl⟩:=i1 rfl;obtain ⟨e1,e2⟩:=vS h ((T - kZ core[j]) / p) j hj;have hne':iM c core (dnI T p c core[j] j)≠[]:=by unfold dnI;rw [e1];exact hne
          obtain ⟨b1,b2,b3,b4⟩:=aa8 h T hT hj hne;have e3:dnI T p c core[j] j % c=j:=(aec _ c j (by omega) (by omega)).2;have e4:iM c core (dnI T p c core[j] j)=core[j]:=e1;refine ⟨fun _=>⟨hne',(ac6 h T hne').2 ?_,fun m hm ac => ?_⟩,(fun e=>by cases e),(by simp only [dnI];omega),(by simp only [dnI];omega)⟩
          · simp only [e3,e4];exact Int.le_refl _
          · obtain ⟨_,_,i,hi,f1,f2⟩:=nN h hm
            have g1:=(ac6 h T hm).1 ac;rw [f1,f2] at g1;have:=i2 rfl i hi (by omega) (by rw [← f2];exact hm);simp only;omega
        | false =>
          obtain ⟨rfl,hz⟩:=i3 rfl;refine ⟨(fun e=>by cases e),(fun _ m=>Classical.byContradiction fun hm => ?_),by simp,by simp⟩;obtain ⟨_,_,i,hi,f1,f2⟩:=nN h hm;exact hm (by rw [f2];exact hz i hi (by omega))
      · have c1:¬ (n:Int)<(core.length:Int):=by omega
        simp only [fJ.l0,fJ.l0T,decide_eq_true_eq,c1,if_false];exact Ev.shift hX
    | succ d ih =>
      intro n a ok hd hn i1 i2 i3;have hlt:n<core.length:=by omega
      have hw:wq ((n:Int)+1)=((n+1:Nat):Int):=by rw [je (by omega) (by omega)];simp
      have c1:(n:Int)<(core.length:Int):=by omega
      have c2:(0:Int)≤(n:Int):=by omega
      have ab:=h.hcore _ (List.getElem_mem hlt);have hh:=fun k=>uq k ab;by_cases hz:core[n]=[]
      · obtain ⟨r,r2,r1⟩:=ih (n+1) a ok (by omega) (by omega) i1 (fun e j hj hjn hne=>by
          rcases Nat.lt_or_ge j n with g | g
          · exact i2 e j hj g hne
          · have:j=n:=by omega
            subst this;exact absurd hz hne) (fun e=>⟨(i3 e).1,fun j hj hjn=>by
          rcases Nat.lt_or_ge j n with g | g
          · exact (i3 e).2 j hj g
          · have:j=n:=by omega
            subst this;exact hz⟩)
        refine ⟨r,r2,fun X v hX=>Ev.step (fun k=>rfl) ?_⟩;have hh':∀ k,iE.f k core[n]=some (⟨0,0⟩,false):=fun k=>by rw [hh k];simp [hz]
        simp only [fJ.l0,fJ.l0T,decide_eq_true_eq,c1,c2,if_true,rdL core n hlt,hh',Option.bind_some,hw];exact Ev.yes (by simp) (r1 (fun k=>X (k+1)) v (Ev.shift hX))
      · obtain ⟨b1,b2,b3,b4⟩:=aa8 h T hT hlt hz
        have af:=ab.ends hz;have hp:p≠0:=fun e=>by have:=h.hz.2 e;omega
        have hp0:=h.hp0;have hp1:=h.hp1;have aa:=afm (kZ core[n]) (lu core[n]) T p hT (by omega) (by omega);have eu:(T - kZ core[n]) / p*c+n=dnI T p c core[n] n:=rfl;generalize hz1:(T - kZ core[n]) / p=z at *;have w1:wq (z*c)=z*c:=je (by omega) (by omega);have w2:wq (z*c+n)=dnI T p c core[n] n:=by rw [← eu];exact je (by omega) (by omega)
        have hub : -13194139533336000≤dnI T p c core[n] n∧dnI T p c core[n] n≤13194139533336000:=by rw [← eu];omega
        have take:(ok=true→a≤dnI T p c core[n] n)→∃ r,PlD p c core T r∧∀ (X:Nat→Int→Bool→Option γ) (v:γ),Ev (fun k=>X k r.1 r.2) v→Ev (fun k=>fJ.l0 (X k) T core (core.length:Int) p c k (dnI T p c core[n] n) true ((n+1:Nat):Int)) v:=fun hle=>by
          refine ih (n+1) _ true (by omega) (by omega) (fun _=>⟨n,hlt,hz,rfl⟩) (fun _ j hj hjn hne => ?_) (fun e=>by cases e);rcases Nat.lt_or_ge j n with g | g
          · cases ok with
            | true=>have:=i2 rfl j hj g hne;have:=hle rfl;omega
            | false=>exact absurd ((i3 rfl).2 j hj g) hne
          · have:j=n:=by omega
            subst this;exact Int.le_refl _
        simp only [hz,if_false] at hh;by_cases hok:ok=true
        · obtain ⟨j,hj,hne,ea⟩:=i1 hok
          have hab : -13194139533336000≤a∧a≤13194139533336000:=by
            obtain ⟨c1,c2,c3,c4⟩:=aa8 h T hT hj hne;rw [ea];unfold dnI;omega
          have w3:wq (wq (dnI T p c core[n] n - a)*(-1))=a - dnI T p c core[n] n:=by rw [je (n:=dnI T p c core[n] n - a) (by omega) (by omega),je (by omega) (by omega)];omega
          by_cases hlt2:a - dnI T p c core[n] n<0
          · obtain ⟨r,r2,r1⟩:=take (fun _=>by omega)
            refine ⟨r,r2,fun X v hX=>Ev.step (fun k=>rfl) ?_⟩;simp only [fJ.l0,fJ.l0T,decide_eq_true_eq,c1,c2,if_true,rdL core n hlt,hh,Option.bind_some,hw];refine Ev.no (by simp [hz]) (Ev.bind aa (Ev.no (by simp [hok]) ?_));rw [w1,w2,w3];exact Ev.yes hlt2 (r1 (fun k=>X (k+1)) v (Ev.shift hX))
          · obtain ⟨r,r2,r1⟩:=ih (n+1) a ok (by omega) (by omega) i1 (fun e j hj hjn hne=>by
              rcases Nat.lt_or_ge j n with g | g
              · exact i2 e j hj g hne
              · have:j=n:=by omega
                subst this;omega) (fun e=>by rw [hok] at e;cases e)
            refine ⟨r,r2,fun X v hX=>Ev.step (fun k=>rfl) ?_⟩;simp only [fJ.l0,fJ.l0T,decide_eq_true_eq,c1,c2,if_true,rdL core n hlt,hh,Option.bind_some,hw];refine Ev.no (by simp [hz]) (Ev.bind aa (Ev.no (by simp [hok]) ?_));rw [w1,w2,w3];exact Ev.no hlt2 (r1 (fun k=>X (k+1)) v (Ev.shift hX))
        · obtain ⟨r,r2,r1⟩:=take (fun e=>absurd e hok)
          refine ⟨r,r2,fun X v hX=>Ev.step (fun k=>rfl) ?_⟩;simp only [fJ.l0,fJ.l0T,decide_eq_true_eq,c1,c2,if_true,rdL core n hlt,hh,Option.bind_some,hw];refine Ev.no (by simp [hz]) (Ev.bind aa (Ev.yes (by simpa using hok) ?_));rw [w1,w2];exact r1 (fun k=>X (k+1)) v (Ev.shift hX)
  exact loop _ 0 0 false rfl (by omega) (fun e=>by cases e) (fun e=>by cases e) (fun _=>⟨rfl,fun j hj hjn=>by omega⟩)
theorem abl (ho:odd.length≤6000):∀ (rest pre:List Gn),odd=pre++rest→∀ (m:List (Int × Int)),(∀ i,nR m i=sw pre i)→∃ m',(∀ i,nR m' i=sw odd i)∧∀ (X:Nat→List (Int × Int)→Option γ) (v:γ),Ev (fun k=>X k m') v →
    Ev (fun k=>fJ.l2 (X k) odd (odd.length:Int) k (pre.length:Int) m) v:=by
  intro rest;induction rest with
  | nil =>
    intro pre hp m hm;refine ⟨m,fun i=>by rw [hm,hp,List.append_nil],fun X v hX=>Ev.step (fun k=>rfl) ?_⟩;have c1:¬ (pre.length:Int)<(odd.length:Int):=by rw [hp];simp
    simp only [fJ.l2,fJ.l2T,decide_eq_true_eq,c1,if_false];exact Ev.shift hX
  | cons g r ih =>
    intro pre hp m hm;have hlen:pre.length+1≤odd.length:=by rw [hp];simp
    have hrd:gG odd (pre.length:Int)=g:=by rw [hp];simp [gG]
    have c1:(pre.length:Int)<(odd.length:Int):=by omega
    have c2:(0:Int)≤(pre.length:Int):=by omega
    have hw:=nx c1 c2 (by omega);have hb:=xq pre g.f0;obtain ⟨m',h1,h2⟩:=ih (pre++[g]) (by rw [hp];simp) (sQ m g.f0 (wq (nR m g.f0+1))) (fun i=>by
      rw [vV,hm,vW,je (by omega) (by omega),hm];by_cases e:g.f0=i
      · subst e;simp
      · simp [e])
    refine ⟨m',h1,fun X v hX=>Ev.step (fun k=>rfl) ?_⟩;have:=h2 (fun k=>X (k+1)) v (Ev.shift hX);rw [← len1] at this;simp only [fJ.l2,fJ.l2T,decide_eq_true_eq,c1,c2,if_true,hrd,hw];exact this
theorem uz (h:SF p c core odd) (t:TF p core) (T:Int) (hT:T≤1099511627777) (m:List (Int × Int)) (hm:∀ i,nR m i=sw odd i):∀ (d:Nat) (i:Int) (ok:Bool) (b:Int),
    (ok=true→(i+1099511627777).toNat≤d)→(ok=true→inR i∧iM c core i≠[]∧gLo p c core [] i≤T) →
    (∀ m,Ex p c core [] m→jI odd m=none→gLo p c core [] m≤T→ok=true∧m≤i)→0≤b→b≤2 →
    (1≤b→ok=true→∀ m,m≤i→iM c core m≠[]→gHi p c core [] m≤1099511627776) →
    (2≤b→ok=true→∀ m,m≤i→iM c core m≠[]→gHi p c core [] m < -1099511627776) →
    ∃ r,PnD p c core odd T r∧∀ (X0:Nat→Int→Option γ) (X1:Nat→Option γ) (v:γ),Ev (fun k=>if r.2=true then X0 k r.1 else X1 k) v →
      Ev (fun k=>fJ.l3 (X0 k) (X1 k) p c core m k i ok b) v:=by
  have cnt:∀ i,nR m i=0↔jI odd i=none:=fun i=>by rw [hm,vX]
  have stop:∀ (i b:Int) (X0:Nat→Int→Option γ) (X1:Nat→Option γ) (v:γ),Ev (fun k=>if false=true then X0 k 0 else X1 k) v→Ev (fun k=>fJ.l3 (X0 k) (X1 k) p c core m k i false b) v:=fun i b X0 X1 v hX=>by
    refine Ev.step (fun k=>rfl) ?_;simp only [fJ.l3,fJ.l3T,Bool.false_eq_true,if_false] at hX ⊢;exact Ev.shift hX
  intro d;induction d with
  | zero =>
    intro i ok b hd hA hB h0 h2 hC hD;have hok:ok=false:=by
      cases ok with
      | true=>have:=hA rfl;have:=this.1;unfold inR at this;have:=hd rfl;omega
      | false=>rfl
    subst hok;exact ⟨(0,false),⟨(fun e=>by cases e),fun _=>⟨rfl,fun m m1 m2 m3=>by cases (hB m m1 m2 m3).1⟩⟩,stop i b⟩
  | succ d ih =>
    intro i ok b hd hA hB h0 h2 hC hD;cases ok with
    | false=>exact ⟨(0,false),⟨(fun e=>by cases e),fun _=>⟨rfl,fun m m1 m2 m3=>by cases (hB m m1 m2 m3).1⟩⟩,stop i b⟩
    | true =>
      obtain ⟨a1,a2,a3⟩:=hA rfl;have hd:=hd rfl;by_cases hb:b<2
      · obtain ⟨n,n1,n2⟩:=nD h.lW i (by unfold inR at a1;omega)
        have aa:=jH h.lW i;have next:∀ (b':Int),0≤b'→b'≤2→(∀ m,Ex p c core [] m→jI odd m=none→m≠i) →
            (1≤b'→∀ m,m<i→iM c core m≠[]→gHi p c core [] m≤1099511627776)→(2≤b'→∀ m,m<i→iM c core m≠[]→gHi p c core [] m < -1099511627776) →
            ∃ r,PnD p c core odd T r∧∀ (X0:Nat→Int→Option γ) (X1:Nat→Option γ) (v:γ),Ev (fun k=>if r.2=true then X0 k r.1 else X1 k) v →
              Ev (fun k=>fJ.l3 (X0 k) (X1 k) p c core m k n.1 n.2 b') v:=by
          intro b' g0 g2 gi gC gD;unfold inR at a1;refine ih n.1 n.2 b' (fun e => ?_) (fun e => ?_) (fun m m1 m2 m3 => ?_) g0 g2 (fun e1 e2 m hm => ?_) (fun e1 e2 m hm => ?_)
          · have:=(n2.1 e).1;omega
          · obtain ⟨q1,q2,q3,q4⟩:=n2.1 e
            have:=vT h t (i:=n.1) (k:=i) (by omega) q3 a2;have:=aey h q3;exact ⟨q2,q3,by omega⟩
          · have g3:=(hB m m1 m2 m3).2
            have g4:=gi m m1 m2;have g5:=m1.r;cases hn:n.2 with
            | true =>
              refine ⟨rfl,Classical.byContradiction fun hx => ?_⟩;unfold inR at g5;exact m1.n ((n2.1 hn).2.2.2 m (by omega) (by omega))
            | false =>
              exact absurd ((n2.2 hn).2 m (by unfold inR at g5;omega) g5) m1.n
          · have:=(n2.1 e2).1;exact gC e1 m (by omega)
          · have:=(n2.1 e2).1;exact gD e1 m (by omega)
        by_cases hx:Ex p c core [] i
        · rw [h.lW.j4 hx] at aa
          by_cases ho:jI odd i=none
          · refine ⟨(i,true),⟨fun _=>⟨hx,ho,a3,fun m m1 m2 m3=>(hB m m1 m2 m3).2⟩,fun e=>by cases e⟩,fun X0 X1 v hX=>Ev.step (fun k=>rfl) ?_⟩
            simp only [fJ.l3,fJ.l3T,decide_eq_true_eq,hb,if_true];exact Ev.bind aa (Ev.no (by simp) (Ev.yes ((cnt i).2 ho) (by simpa using Ev.shift hX)))
          · obtain ⟨r,r2,r1⟩:=next b h0 h2 (fun m _ m2 e=>ho (by rw [← e];exact m2)) (fun e m hm=>hC e rfl m (by omega)) (fun e m hm=>hD e rfl m (by omega))
            refine ⟨r,r2,fun X0 X1 v hX=>Ev.step (fun k=>rfl) ?_⟩;simp only [fJ.l3,fJ.l3T,decide_eq_true_eq,hb,if_true];exact Ev.bind aa (Ev.no (by simp) (Ev.no (fun e=>ho ((cnt i).1 e)) (Ev.bind n1 (r1 (fun k=>X0 (k+1)) (fun k=>X1 (k+1)) v (Ev.shift hX)))))
        · rw [h.lW.tZ a2 hx] at aa
          have hw:wq (b+1)=b+1:=je (by omega) (by omega);obtain ⟨r,r2,r1⟩:=next (b+1) (by omega) (by omega) (fun m m1 _ e=>hx (by rw [← e];exact m1)) (fun _ m hm hmn=>by
              have:=vT h t hm hmn a2;omega) (fun e m hm hmn=>by
              have q1:=vT h t hm hmn a2;have q2:=hC (by omega) rfl i (Int.le_refl _) a2;refine Classical.byContradiction fun hq=>hx ⟨a1,a2,?_,q2⟩;omega)
          refine ⟨r,r2,fun X0 X1 v hX=>Ev.step (fun k=>rfl) ?_⟩;simp only [fJ.l3,fJ.l3T,decide_eq_true_eq,hb,if_true,hw];exact Ev.bind aa (Ev.yes (by simp) (Ev.bind n1 (r1 (fun k=>X0 (k+1)) (fun k=>X1 (k+1)) v (Ev.shift hX))))
      · refine ⟨(0,false),⟨(fun e=>by cases e),fun _=>⟨rfl,fun m m1 m2 m3 => ?_⟩⟩,fun X0 X1 v hX=>Ev.step (fun k=>rfl) ?_⟩
        · have q1:=hD (by omega) rfl m (hB m m1 m2 m3).2 m1.n
          have q2:=aey h m1.n;have:=m1.lo;omega
        · simp only [fJ.l3,fJ.l3T,decide_eq_true_eq,hb,if_true,if_false]
          exact Ev.shift hX
theorem qW (h:SF p c core odd) (T:Int):∀ (d n:Nat) (a:Int) (ok:Bool),odd.length - n=d→n≤odd.length →
    (ok=true→Ex p c core odd a∧gLo p c core odd a≤T)→(∀ m,Ex p c core odd m→gLo p c core odd m≤T→(jI odd m=none∨∃ j,∃ hj:j<odd.length,j<n∧odd[j].f0=m)→ok=true∧m≤a)→(ok=false→a=0) →
    ∃ r,Ev (fun k=>fJ.l1 (fun y z=>some (y,z)) T odd (odd.length:Int) k a ok (n:Int)) r∧TlD p c core odd T r:=by
  have hlo:=h.hlo;intro d;induction d with
  | zero =>
    intro n a ok hd hn i1 i2 i3;have c1:¬ (n:Int)<(odd.length:Int):=by omega
    refine ⟨(a,ok),Ev.step (f:=fun _=>some (a,ok)) (fun k=>by simp only [fJ.l1,fJ.l1T,decide_eq_true_eq,c1,if_false]) (Ev.now _),?_⟩;have all:∀ m,jI odd m=none∨∃ j,∃ hj:j<odd.length,j<n∧odd[j].f0=m:=fun m=>by
      rcases ac5 (odd:=odd) (m:=m) with g | ⟨j,hj,g⟩
      · exact .inl g
      · exact .inr ⟨j,hj,by omega,g⟩
    cases ok with
    | true=>exact ⟨fun _=>⟨(i1 rfl).1,(i1 rfl).2,fun m m1 m2=>(i2 m m1 m2 (all m)).2⟩,fun e=>by cases e⟩
    | false=>exact ⟨(fun e=>by cases e),fun _=>⟨i3 rfl,fun m m1 m2=>by cases (i2 m m1 m2 (all m)).1⟩⟩
  | succ d ih =>
    intro n a ok hd hn i1 i2 i3;have hlt:n<odd.length:=by omega
    have hw:wq ((n:Int)+1)=((n+1:Nat):Int):=by rw [je (by omega) (by omega)];simp
    have c1:(n:Int)<(odd.length:Int):=by omega
    have c2:(0:Int)≤(n:Int):=by omega
    have aa:=h.hodd _ (List.getElem_mem hlt);have hh:=fun k=>uq k aa;obtain ⟨e1,e2,e3⟩:=aa7 h hlt;have skip:(odd[n].f1=[]∨¬ kZ odd[n].f1≤T∨ok=true∧odd[n].f0≤a)→∃ r,Ev (fun k=>fJ.l1 (fun y z=>some (y,z)) T odd (odd.length:Int) k a ok ((n+1:Nat):Int)) r∧TlD p c core odd T r:=fun hs=>by
      refine ih (n+1) a ok (by omega) (by omega) i1 (fun m m1 m2 m3 => ?_) i3;rcases m3 with g | ⟨j,hj,g,g2⟩
      · exact i2 m m1 m2 (.inl g)
      · rcases Nat.lt_or_ge j n with g3 | g3
        · exact i2 m m1 m2 (.inr ⟨j,hj,g3,g2⟩)
        · have:j=n:=by omega
          subst this;subst g2;rcases hs with hs | hs | hs
          · exact absurd (by rw [e1];exact hs) m1.n
          · exact absurd (by rw [← e2];exact m2) hs
          · exact hs
    by_cases hz:odd[n].f1=[]
    · obtain ⟨r,r1,r2⟩:=skip (.inl hz)
      refine ⟨r,Ev.step (fun k=>rfl) ?_,r2⟩;have hh':∀ k,iE.f k odd[n].f1=some (⟨0,0⟩,false):=fun k=>by rw [hh k];simp [hz]
      simp only [fJ.l1,fJ.l1T,decide_eq_true_eq,c1,c2,if_true,rdG odd n hlt,hh',Option.bind_some,hw];exact Ev.no (by simp) r1
    · have hh':∀ k,iE.f k odd[n].f1=some (⟨kZ odd[n].f1,lu odd[n].f1⟩,true):=fun k=>by rw [hh k];simp [hz]
      by_cases hso:kZ odd[n].f1≤T
      · have take:(ok=true→a≤odd[n].f0)→∃ r,Ev (fun k=>fJ.l1 (fun y z=>some (y,z)) T odd (odd.length:Int) k odd[n].f0 true ((n+1:Nat):Int)) r∧TlD p c core odd T r:=fun hle=>by
          refine ih (n+1) odd[n].f0 true (by omega) (by omega) (fun _=>⟨ac4 h hlt hz,by rw [e2];exact hso⟩) (fun m m1 m2 m3=>⟨rfl,?_⟩) (fun e=>by cases e);rcases m3 with g | ⟨j,hj,g,g2⟩
          · obtain ⟨q1,q2⟩:=i2 m m1 m2 (.inl g);have:=hle q1;omega
          · rcases Nat.lt_or_ge j n with g3 | g3
            · obtain ⟨q1,q2⟩:=i2 m m1 m2 (.inr ⟨j,hj,g3,g2⟩);have:=hle q1;omega
            · have:j=n:=by omega
              subst this;subst g2;exact Int.le_refl _
        by_cases hok:ok=true
        · have hr1:=(i1 hok).1.r
          have hr2:=h.hidx _ (List.getElem_mem hlt);unfold inR at hr1 hr2;have w3:wq (wq (odd[n].f0 - a)*(-1))=a - odd[n].f0:=by rw [je (n:=odd[n].f0 - a) (by omega) (by omega),je (by omega) (by omega)];omega
          by_cases hlt2:a - odd[n].f0<0
          · obtain ⟨r,r1,r2⟩:=take (fun _=>by omega)
            refine ⟨r,Ev.step (fun k=>rfl) ?_,r2⟩;simp only [fJ.l1,fJ.l1T,iY.f,decide_eq_true_eq,c1,c2,if_true,rdG odd n hlt,hh',Option.bind_some,hw,w3];exact Ev.yes hso (Ev.no (by simp [hok]) (Ev.yes hlt2 r1))
          · obtain ⟨r,r1,r2⟩:=skip (.inr (.inr ⟨hok,by omega⟩))
            refine ⟨r,Ev.step (fun k=>rfl) ?_,r2⟩;simp only [fJ.l1,fJ.l1T,iY.f,decide_eq_true_eq,c1,c2,if_true,if_false,rdG odd n hlt,hh',Option.bind_some,hw,w3];exact Ev.yes hso (Ev.no (by simp [hok]) (Ev.no hlt2 r1))
        · obtain ⟨r,r1,r2⟩:=take (fun e=>absurd e hok)
          refine ⟨r,Ev.step (fun k=>rfl) ?_,r2⟩;simp only [fJ.l1,fJ.l1T,iY.f,decide_eq_true_eq,c1,c2,if_true,rdG odd n hlt,hh',Option.bind_some,hw];exact Ev.yes hso (Ev.yes (by simpa using hok) r1)
      · obtain ⟨r,r1,r2⟩:=skip (.inr (.inl hso))
        refine ⟨r,Ev.step (fun k=>rfl) ?_,r2⟩;simp only [fJ.l1,fJ.l1T,iY.f,decide_eq_true_eq,c1,c2,if_true,rdG odd n hlt,hh',Option.bind_some,hw];exact Ev.no hso r1
theorem abm (h:FOK p c core odd) (t:Int):∃ r,Ev (fun k=>fJ.f k p c core odd t) r∧TlD p c core odd t r:=by
  have hcl:=afh t;have hmm:mx (mn t 1099511627777) (-1099511627777)=cl t:=rfl;have near:∀ a:Int × Bool,PnD p c core odd (cl t) a→∃ r,Ev (fun k=>fJ.l1 (fun y z=>some (y,z)) (cl t) odd (odd.length:Int) k a.1 a.2 ((0:Nat):Int)) r∧TlD p c core odd (cl t) r:=fun a a2 =>
    qW h.s (cl t) _ 0 a.1 a.2 rfl (by omega) (fun e=>by
      obtain ⟨q1,q2,q3,q4⟩:=a2.y e;exact ⟨(pE q2).2 q1,by rw [(qU q2).2.1];exact q3⟩) (fun m m1 m2 m3=>by
      rcases m3 with g | ⟨j,hj,g,_⟩
      · have aa:=m2
        rw [(qU g).2.1] at aa;cases ha:a.2 with
        | true=>exact ⟨rfl,(a2.y ha).2.2.2 m ((pE g).1 m1) g aa⟩
        | false=>exact absurd aa ((a2.n ha).2 m ((pE g).1 m1) g)
      · omega) (fun e=>(a2.n e).1)
  have tr:∀ m,Ex p c core odd m→(gLo p c core odd m≤t↔gLo p c core odd m≤cl t):=fun m e=>by
    have:=e.lo;have:=e.hi;have:=h.s.kT e.n;omega
  have fin:∀ r,TlD p c core odd (cl t) r→TlD p c core odd t r:=fun r r2=>⟨fun e=>by
    obtain ⟨q1,q2,q3⟩:=r2.y e;exact ⟨q1,(tr _ q1).2 q2,fun m m1 m2=>q3 m m1 ((tr m m1).1 m2)⟩,fun e=>⟨(r2.n e).1,fun m m1 m2=>(r2.n e).2 m m1 ((tr m m1).1 m2)⟩⟩
  simp only [fJ.f,hmm];obtain ⟨a,a2,a1⟩:=acN (γ:=Int × Bool) h.s (cl t) (by omega);have hf:Ev (fun k=>jY.f k) ():=Ev.congr (f:=fun _=>some ()) (fun k=>rfl) (Ev.now _);have b1:=a2.lo;have b2:=a2.hi;cases ha:a.2 with
  | false =>
    obtain ⟨r,r1,r2⟩:=near (0,false) ⟨(fun e=>by cases e),fun _=>⟨rfl,fun m m1 _ _=>m1.n (a2.n ha m)⟩⟩;exact ⟨r,Ev.bind hf (a1 _ r (Ev.yes (by simp [ha]) r1)),fin r r2⟩
  | true =>
    obtain ⟨q1,q2,q3⟩:=a2.y ha;have hw:wq (a.1 - (-1))=a.1+1:=by rw [je (by omega) (by omega)];omega
    obtain ⟨n,n1,n2⟩:=nD h.s.lW (a.1+1) (by omega);obtain ⟨m,m1,m2⟩:=abl (γ:=Int × Bool) (odd:=odd) h.s.hlo odd [] rfl [] (fun i=>by simp [nR,sw]);obtain ⟨s,s2,s1⟩:=uz (γ:=Int × Bool) h.s h.t (cl t) (by omega) m m1 (n.1+1099511627777).toNat n.1 n.2 0 (fun _=>Nat.le_refl _) (fun e=>by
      obtain ⟨g1,g2,g3,g4⟩:=n2.1 e;refine ⟨g2,g3,?_⟩;rcases Int.lt_trichotomy a.1 n.1 with g | g | g
      · omega
      · rw [← g];exact q2
      · have:=vT h.s h.t g g3 q1
        have:=aey h.s g3;omega) (fun m m1 m2 m3=>by
      have g3:=q3 m m1.n m3;have g5:=m1.r;cases hn:n.2 with
      | true =>
        refine ⟨rfl,Classical.byContradiction fun hx => ?_⟩;unfold inR at g5;exact m1.n ((n2.1 hn).2.2.2 m (by omega) (by omega))
      | false=>exact absurd ((n2.2 hn).2 m (by unfold inR at g5;omega) g5) m1.n) (by omega) (by omega) (fun e=>by omega) (fun e=>by omega)
    obtain ⟨r,r1,r2⟩:=near s s2;refine ⟨r,Ev.bind hf (a1 _ r (Ev.no (by simp [ha]) (m2 _ r ?_))),fin r r2⟩;simp only [hw];refine Ev.bind n1 (s1 (fun k y=>fJ.l1 (fun y z=>some (y,z)) (cl t) odd (odd.length:Int) k y true 0) (fun k=>fJ.l1 (fun y z=>some (y,z)) (cl t) odd (odd.length:Int) k 0 false 0) r ?_);cases hs:s.2 with
    | true=>rw [hs] at r1;simpa using r1
    | false=>rw [hs,(s2.n hs).1] at r1;simpa using r1
end Go.Proofs.YtongeknogcboiaaGreat.Q
namespace Go.Proofs.YtongeknogcboiaaGreat.Q
set_option linter.unusedVariables false
set_option linter.unusedSimpArgs false
open Go.RowKit Go.Proofs.YtongeknogcboiaaGreatW.fP Go.Proofs.YtongeknogcboiaaGreatW.iD M R P
section
variable {p c:Int} {core:List (List Sp)} {odd:List Gn}
def NxU (p c:Int) (core:List (List Sp)) (odd:List Gn) (i:Int) (r:Int × Bool):Prop :=
  (r.2=true→Ex p c core odd r.1∧i<r.1∧∀ m,Ex p c core odd m→i<m→r.1≤m)∧(r.2=false→r.1=0∧∀ m,Ex p c core odd m→m≤i)
def NxD (p c:Int) (core:List (List Sp)) (odd:List Gn) (i:Int) (r:Int × Bool):Prop :=
  (r.2=true→Ex p c core odd r.1∧r.1<i∧∀ m,Ex p c core odd m→m<i→m≤r.1)∧(r.2=false→r.1=0∧∀ m,Ex p c core odd m→i≤m)
def thV (p c:Int) (core:List (List Sp)) (odd:List Gn) (i:Int):List Sp:=(lC p c core odd i).1
theorem nP (h:FOK p c core odd) {i j k:Int} (hi:Ex p c core odd i) (hk:Ex p c core odd k) (h1:i≤j) (h2:j≤k) (hr:inR j) (hn:fs c core odd j≠[]):Ex p c core odd j:=by
  rcases Int.lt_or_le i j with g | g
  · rcases Int.lt_or_le j k with q | q
    · have a:=h.ord i j g hi.r hr hi.n hn
      have b:=h.ord j k q hr hk.r hn hk.n;have:=hi.lo;have:=hk.hi;have:=h.s.kT hi.n;have:=h.s.kT hk.n;exact ⟨hr,hn,by omega,by omega⟩
    · have:j=k:=by omega
      rw [this];exact hk
  · have:j=i:=by omega
    rw [this];exact hi
theorem mF (h:SF p c core odd) (i:Int):(Ex p c core odd i∧lC p c core odd i=(gT p c core odd i,0)∧gT p c core odd i≠[])∨(¬ Ex p c core odd i∧(lC p c core odd i).1=[]):=by
  by_cases e:Ex p c core odd i
  · exact .inl ⟨e,h.j4 e,(lI e.n).1⟩
  · refine .inr ⟨e,?_⟩
    by_cases hn:fs c core odd i=[]
    · unfold lC;split
      · simp [hn]
      · rfl
    · rw [h.tZ hn e]
theorem zL (k:Nat):@fZ.f wtT (k+100)=some true:=by kernel_rfl
end
variable [Inhabited WT]
variable {p c:Int} {core:List (List Sp)} {odd:List Gn}
theorem abn (h:FOK p c core odd):∃ a b,Ev (fun k=>jy.f k p c core odd) (a.1,b.1,a.2)∧FrU p c core odd (-1099511627776) a∧TlD p c core odd 1099511627776 b∧(a.2=true→b.2=true):=by
  obtain ⟨a,a1,a2⟩:=uy h (-1099511627776);obtain ⟨b,b1,b2⟩:=abm h 1099511627776;refine ⟨a,b,?_,a2,b2,fun e => ?_⟩
  · unfold jy.f
    exact Ev.bind a1 (Ev.bind b1 (Ev.now _))
  · obtain ⟨q1,_,_⟩:=a2.y e
    cases hb:b.2 with
    | true=>rfl
    | false =>
      have:=h.s.kT q1.n;have:=q1.hi;exact absurd (show gLo p c core odd a.1≤1099511627776 by omega) ((b2.n hb).2 _ q1)
theorem abo (h:FOK p c core odd) (i:Int) (hi : -9223372036854775808≤i∧i≤9223372036854775807):∃ r,Ev (fun k=>jo.f k p c core odd i) r∧NxU p c core odd i r:=by
  obtain ⟨a,b,ab,a2,b2,hab⟩:=abn h;simp only [jo.f,decide_eq_true_eq];have all:∀ m,Ex p c core odd m→a.2=true∧b.2=true∧a.1≤m∧m≤b.1:=fun m hm=>by
    have l1:=h.s.kT hm.n;have l2:=hm.lo;have l3:=hm.hi;have e1:a.2=true:=by
      cases ha:a.2 with
      | true=>rfl
      | false=>exact absurd (show -1099511627776≤gHi p c core odd m by omega) ((a2.n ha).2 m hm)
    exact ⟨e1,hab e1,(a2.y e1).2.2 m hm (by omega),(b2.y (hab e1)).2.2 m hm (by omega)⟩
  cases ha:a.2 with
  | false=>exact ⟨(0,false),Ev.bind ab (Ev.yes (by simp [ha]) (Ev.now _)),(fun e=>by cases e),fun _=>⟨rfl,fun m hm=>by have:=(all m hm).1;rw [ha] at this;cases this⟩⟩
  | true =>
    have hb:=hab ha;obtain ⟨x1,x2,x3⟩:=a2.y ha;obtain ⟨y1,y2,y3⟩:=b2.y hb;by_cases c1:i≥b.1
    · exact ⟨(0,false),Ev.bind ab (Ev.no (by simp [ha]) (Ev.yes c1 (Ev.now _))),(fun e=>by cases e),fun _=>⟨rfl,fun m hm=>by have:=all m hm;omega⟩⟩
    · by_cases c2:i<a.1
      · exact ⟨(a.1,true),Ev.bind ab (Ev.no (by simp [ha]) (Ev.no c1 (Ev.yes c2 (Ev.now _)))),fun _=>⟨x1,c2,fun m hm _=>(all m hm).2.2.1⟩,fun e=>by cases e⟩
      · obtain ⟨r,r1,r2⟩:=nC h.s i hi
        have ar:=x1.r;have br:=y1.r;unfold inR at ar br;cases hr:r.2 with
        | false=>exact absurd ((r2.2 hr).2 b.1 (by omega) y1.r) y1.n
        | true =>
          obtain ⟨q1,q2,q3,q4⟩:=r2.1 hr;have q5:r.1≤b.1:=Classical.byContradiction fun hx=>y1.n (q4 b.1 (by omega) (by omega));refine ⟨r,Ev.bind ab (Ev.no (by simp [ha]) (Ev.no c1 (Ev.no c2 (Ev.bind (f:=fun _ a=>some (a.1,a.2)) r1 (Ev.now _))))),fun _=>⟨nP h x1 y1 (by omega) q5 q2 q3,by omega,fun m hm hm2=>Classical.byContradiction fun hx=>hm.n (q4 m ?_ (by omega))⟩,fun e=>by rw [hr] at e;cases e⟩;have:=hm.r;unfold inR at this;omega
theorem abp (h:FOK p c core odd) (i:Int) (hi : -9223372036854775808≤i∧i≤9223372036854775807):∃ r,Ev (fun k=>jL.f k p c core odd i) r∧NxD p c core odd i r:=by
  obtain ⟨a,b,ab,a2,b2,hab⟩:=abn h;simp only [jL.f,decide_eq_true_eq];have all:∀ m,Ex p c core odd m→a.2=true∧b.2=true∧a.1≤m∧m≤b.1:=fun m hm=>by
    have l1:=h.s.kT hm.n;have l2:=hm.lo;have l3:=hm.hi;have e1:a.2=true:=by
      cases ha:a.2 with
      | true=>rfl
      | false=>exact absurd (show -1099511627776≤gHi p c core odd m by omega) ((a2.n ha).2 m hm)
    exact ⟨e1,hab e1,(a2.y e1).2.2 m hm (by omega),(b2.y (hab e1)).2.2 m hm (by omega)⟩
  cases ha:a.2 with
  | false=>exact ⟨(0,false),Ev.bind ab (Ev.yes (by simp [ha]) (Ev.now _)),(fun e=>by cases e),fun _=>⟨rfl,fun m hm=>by have:=(all m hm).1;rw [ha] at this;cases this⟩⟩
  | true =>
    have hb:=hab ha;obtain ⟨x1,x2,x3⟩:=a2.y ha;obtain ⟨y1,y2,y3⟩:=b2.y hb;by_cases c1:i≤a.1
    · exact ⟨(0,false),Ev.bind ab (Ev.no (by simp [ha]) (Ev.yes c1 (Ev.now _))),(fun e=>by cases e),fun _=>⟨rfl,fun m hm=>by have:=all m hm;omega⟩⟩
    · by_cases c2:i>b.1
      · exact ⟨(b.1,true),Ev.bind ab (Ev.no (by simp [ha]) (Ev.no c1 (Ev.yes c2 (Ev.now _)))),fun _=>⟨y1,c2,fun m hm _=>(all m hm).2.2.2⟩,fun e=>by cases e⟩
      · obtain ⟨r,r1,r2⟩:=nD h.s i hi
        have ar:=x1.r;have br:=y1.r;unfold inR at ar br;cases hr:r.2 with
        | false=>exact absurd ((r2.2 hr).2 a.1 (by omega) x1.r) x1.n
        | true =>
          obtain ⟨q1,q2,q3,q4⟩:=r2.1 hr;have q5:a.1≤r.1:=Classical.byContradiction fun hx=>x1.n (q4 a.1 (by omega) (by omega));refine ⟨r,Ev.bind ab (Ev.no (by simp [ha]) (Ev.no c1 (Ev.no c2 (Ev.bind (f:=fun _ a=>some (a.1,a.2)) r1 (Ev.now _))))),fun _=>⟨nP h x1 y1 q5 (by omega) q2 q3,by omega,fun m hm hm2=>Classical.byContradiction fun hx=>hm.n (q4 m ?_ (by omega))⟩,fun e=>by rw [hr] at e;cases e⟩;have:=hm.r;unfold inR at this;omega
theorem qj (h:SF p c core odd) (i:Int):Ev (fun k=>iK.f k p c core odd i) (thV p c core odd i):=by
  unfold iK.f;exact Ev.bind (jH h i) (Ev.now _)
theorem sD:Ev (fun k=>fZ.f k) true:=⟨100,fun k hk=>by
  obtain ⟨j,rfl⟩:=Nat.exists_eq_add_of_le' hk;rename_i i;rw [aeK i wtT];exact zL j⟩
end Go.Proofs.YtongeknogcboiaaGreat.Q
namespace Go.Proofs.YtongeknogcboiaaGreat.Q
set_option linter.unusedVariables false
set_option linter.unusedSimpArgs false
open Go.RowKit Go.Proofs.YtongeknogcboiaaGreatW.fP Go.Proofs.YtongeknogcboiaaGreatW.iD M R P
section
theorem abq (k:Nat) (a b x:Int):iZ.f k a b x=some (if b<x then -1 else if a>x then 1 else 0):=by
  simp only [iZ.f,decide_eq_true_eq];split
  · rfl
  · split <;> rfl
end
variable [Inhabited WT]
theorem afn (k:Nat) (l:List Sp) (i:Bool) (t:Int):iJ.f k l i t=some (jJ l i t):=by
  cases l with
  | nil=>cases i <;> simp [iJ.f,jJ]
  | cons s r =>
    have c0:(((s :: r).length:Int)>0):=by simp
    have c1:(0:Int)<((s :: r).length:Int):=by simp
    have c2:(1:Int)≤((s :: r).length:Int):=by simp;omega
    have hg:gS (s :: r) 0=s:=rfl;simp only [iJ.f,decide_eq_true_eq,c0,c1,c2,if_true,hg,sP,List.drop_one,List.tail_cons];cases i with
    | true=>simp only [jJ,if_true];split <;> simp
    | false=>simp only [jJ];simp;split <;> rfl
theorem yN (k:Nat) (l:List Sp) (i:Bool) (h:l≠[]):gX.f k l i=some (oO l i):=by
  cases l with
  | nil=>exact absurd rfl h
  | cons s r =>
    have c1:(0:Int)<((s :: r).length:Int):=by simp
    have hg:gS (s :: r) 0=s:=rfl;simp only [gX.f,c1,if_true,hg,sP];cases i <;> simp [oO]
def YY {γ:Type} (yes:Bool→Bool→Bool) (t:Int) (a b:Bool) (out:List Sp) (inn:Bool) (fr:Int) (x y:List Sp) (x0:List Sp→Bool→Int→List Sp→List Sp→Option γ):Option γ :=
  if yes a b=true then (if (!inn)=true then x0 out (yes a b) t x y else (if (!yes a b)=true then (if inn=true then (if out.length+1≤8796093022208 then x0 (out++[⟨fr,wq (t - 1)⟩]) (yes a b) fr x y else none) else x0 out (yes a b) fr x y) else x0 out (yes a b) fr x y))
  else (if (!yes a b)=true then (if inn=true then (if out.length+1≤8796093022208 then x0 (out++[⟨fr,wq (t - 1)⟩]) (yes a b) fr x y else none) else x0 out (yes a b) fr x y) else x0 out (yes a b) fr x y)
theorem xu {γ:Type} (yes:Bool→Bool→Bool) (t:Int) (a b:Bool) (s:Kst) (x y:List Sp) (x0:List Sp→Bool→Int→List Sp→List Sp→Option γ) (h:s.out.length+1≤8796093022208) :
    YY yes t a b s.out s.inn s.from_ x y x0=x0 (lM yes s ⟨t,a,b⟩).out (lM yes s ⟨t,a,b⟩).inn (lM yes s ⟨t,a,b⟩).from_ x y:=by
  unfold YY lM;simp only [sP,h,if_true];cases yes a b <;> cases s.inn <;> simp
theorem abr (yes:Bool→Bool→Bool):∀ (n:Nat) (a:List Sp) (ia:Bool) (b:List Sp) (ib:Bool) (s:Kst),msr a ia+msr b ib≤n→s.out.length+n≤1000000000→a.length+b.length≤1000000000 →
    Ev (fun k=>gF.l0 (YY yes) (fun y _ _ _ _=>some y) k ia ib s.out s.inn s.from_ a b) ((pU a ia b ib).foldl (lM yes) s).out:=by
  intro n;induction n with
  | zero =>
    intro a ia b ib s hn hs hl;have e:a=[]∧b=[]:=Classical.byContradiction fun e=>by have:=qp a ia b ib e;omega
    obtain ⟨rfl,rfl⟩:=e;rw [oD];refine Ev.step (f:=fun _=>some s.out) (fun k => ?_) (Ev.now _);have:¬ (wq 0>0):=by rw [je (by omega) (by omega)];omega
    simp [gF.l0,gF.l0T,this]
  | succ n ih =>
    intro a ia b ib s hn hs hl;by_cases e:a=[]∧b=[]
    · obtain ⟨rfl,rfl⟩:=e
      rw [oD];refine Ev.step (f:=fun _=>some s.out) (fun k => ?_) (Ev.now _);have:¬ (wq 0>0):=by rw [je (by omega) (by omega)];omega
      simp [gF.l0,gF.l0T,this]
    · have hlt:=qp a ia b ib e
      have hla:∀ (l:List Sp) (i:Bool) (t:Int),(jJ l i t).1.length≤l.length:=fun l i t=>by
        match l,i with
        | [],i=>simp [jJ]
        | s :: r,true=>simp only [jJ];split <;> simp
        | s :: r,false=>simp only [jJ];split <;> simp
      rw [rH a ia b ib e,List.foldl_cons];have hk:=aaf yes s ⟨atL a ia b ib,(jJ a ia (atL a ia b ib)).2,(jJ b ib (atL a ia b ib)).2⟩;have q:=ih (jJ a ia (atL a ia b ib)).1 (jJ a ia (atL a ia b ib)).2 (jJ b ib (atL a ia b ib)).1 (jJ b ib (atL a ia b ib)).2 (lM yes s ⟨atL a ia b ib,(jJ a ia (atL a ia b ib)).2,(jJ b ib (atL a ia b ib)).2⟩) (by omega) (by omega) (by have:=hla a ia (atL a ia b ib);have:=hla b ib (atL a ia b ib);omega);refine Ev.step (fun k=>rfl) ?_;have hw:wq ((a.length:Int)+(b.length:Int))>0:=by
        rw [je (by omega) (by omega)];have:0<a.length+b.length:=Nat.pos_of_ne_zero fun h0=>e ⟨List.eq_nil_of_length_eq_zero (by omega),List.eq_nil_of_length_eq_zero (by omega)⟩;omega
      have hs1:s.out.length+1≤8796093022208:=by omega
      simp only [gF.l0,gF.l0T,decide_eq_true_eq,hw,if_true,afn,Option.bind_some];by_cases ha:a=[]
      · have hb:b≠[]:=fun h=>e ⟨ha,h⟩
        have hat:atL a ia b ib=oO b ib:=by unfold atL;rw [if_pos ha]
        refine Ev.yes (by rw [ha];rfl) ?_;simp only [yN _ b ib hb,Option.bind_some,xu yes _ _ _ s _ _ _ hs1];rw [← hat];exact q
      · have ha':¬ (a.length:Int)=0:=fun h=>ha (List.eq_nil_of_length_eq_zero (by omega))
        refine Ev.no ha' ?_;by_cases hb:b=[]
        · have hat:atL a ia b ib=oO a ia:=by unfold atL;rw [if_neg ha,if_pos hb]
          refine Ev.yes (by rw [hb];rfl) ?_;simp only [yN _ a ia ha,Option.bind_some,xu yes _ _ _ s _ _ _ hs1];rw [← hat];exact q
        · have hb':¬ (b.length:Int)=0:=fun h=>hb (List.eq_nil_of_length_eq_zero (by omega))
          have hat:atL a ia b ib=mn (oO a ia) (oO b ib):=by unfold atL;rw [if_neg ha,if_neg hb,aeb]
          refine Ev.no hb' ?_;simp only [yN _ a ia ha,yN _ b ib hb,Option.bind_some,xu yes _ _ _ s _ _ _ hs1];rw [← hat];exact q
theorem abt (yes:Bool→Bool→Bool) (a b:List Sp) (h:a.length+b.length≤1000000):Ev (fun k=>gF.l0 (YY yes) (fun y _ _ _ _=>some y) k false false [] false 0 a b) (nW yes a b) :=
  abr yes _ a false b false ⟨false,0,[]⟩ (Nat.le_refl _) (by unfold msr;simp;omega) (by omega)
theorem aeh (a b:List Sp) (h:a.length+b.length≤1000000):Ev (fun k=>gF.f k a b) (nW (fun a b=>a && !b) a b):=by
  refine Ev.congr (fun k => ?_) (abt (fun a b=>a && !b) a b h);have:∀ x y,jd.f k x y=some (x && !y):=fun x y=>by cases x <;> rfl
  simp only [gF.f,this,Option.bind_some];rfl
theorem acO {γ:Type} (Y:Int→Bool→Bool→List Sp→Bool→Int→List Sp→List Sp→(List Sp→Bool→Int→List Sp→List Sp→Option γ)→Option γ) (X:List Sp→Bool→Int→List Sp→List Sp→Option γ) (k:Nat):gN.l0 Y X k=gF.l0 Y X k:=by kernel_rfl
theorem afo (a b:List Sp) (h:a.length+b.length≤1000000):Ev (fun k=>gN.f k a b) (nW (fun a b=>a&&b) a b):=by
  refine Ev.congr (fun k => ?_) (abt (fun a b=>a&&b) a b h);have:∀ x y,jr.f k x y=some (x&&y):=fun x y=>by cases x <;> rfl
  simp only [gN.f,this,Option.bind_some,acO];rfl
theorem mG (a b:List Sp) (h:a.length+b.length≤1000000):Ev (fun k=>gQ.f k a b) (decide (nW (fun a b=>a && !b) a b=[])):=by
  unfold gQ.f;refine Ev.bind (aeh a b h) ?_;cases nW (fun a b=>a && !b) a b with
  | nil=>exact Ev.now _
  | cons x r=>exact Ev.congr (f:=fun _=>some (decide (x :: r=[]))) (fun k=>by simp;omega) (Ev.now _)
theorem l6 (a b:List Sp) (h:a.length+b.length≤1000000):Ev (fun k=>gZ.f k a b) (decide (nW (fun a b=>a&&b) a b≠[])):=by
  unfold gZ.f;refine Ev.bind (afo a b h) ?_;cases nW (fun a b=>a&&b) a b with
  | nil=>exact Ev.now _
  | cons x r=>exact Ev.congr (f:=fun _=>some (decide (x :: r≠[]))) (fun k=>by simp) (Ev.now _)
theorem afp {lb ub:Int} (l:List Sp) (x:Int) (hs:SL lb ub l) (hn:l.length≤4611686018427387903):Ev (fun k=>gP.f k l x) (lD l x):=by
  simp only [gP.f,abq,Option.bind_some,decide_eq_true_eq];have key:∀ (d lo hi:Nat),hi - lo=d→lo≤hi→hi≤l.length→(∀ j (hj:j<l.length),j<lo→l[j].f1<x)→(∀ j (hj:j<l.length),hi≤j→x≤l[j].f1) →
      Ev (fun k=>gP.l0 (fun y=>if y<(l.length:Int) then if 0≤y then if y<(l.length:Int) then if (if (gS l y).f1<x then (-1:Int) else if (gS l y).f0>x then 1 else 0)=0 then some (decide (y<(l.length:Int))) else some false else none else none else some false) l x k (lo:Int) (hi:Int)) (lD l x):=by
    intro d;induction d using Nat.strongRecOn with
    | ind d ih =>
      intro lo hi hd hle hhn hlow hhigh;by_cases hlt:lo<hi
      · have c1:(lo:Int)<(hi:Int):=by omega
        have hm:=aaY lo hi (by omega) hle;have hmid:(lo+hi) / 2<l.length:=by omega
        have hrd:=agy l ((lo+hi) / 2) hmid;have c2:(0:Int)≤(((lo+hi) / 2:Nat):Int):=by omega
        have c3:(((lo+hi) / 2:Nat):Int)<(l.length:Int):=by omega
        have hw:wq ((((lo+hi) / 2:Nat):Int)+1)=(((lo+hi) / 2+1:Nat):Int):=by rw [je (by omega) (by omega)];simp
        refine Ev.step (fun k=>rfl) ?_;by_cases t:l[(lo+hi) / 2].f1<x
        · have r1:=ih (hi - ((lo+hi) / 2+1)) (by omega) ((lo+hi) / 2+1) hi rfl (by omega) hhn (fun j hj h=>by
            rcases Nat.lt_or_ge j ((lo+hi) / 2) with g | g
            · have:=SL.rise hs j _ hmid g
              have:=(SL.get hs _ hmid).2.1;omega
            · have:j=(lo+hi) / 2:=by omega
              subst this;exact t) hhigh
          simp only [gP.l0,gP.l0T,decide_eq_true_eq,c1,hm,c2,c3,hrd,abq,t,Option.bind_some,hw,if_true];exact Ev.yes (by omega) r1
        · have r1:=ih ((lo+hi) / 2 - lo) (by omega) lo ((lo+hi) / 2) rfl (by omega) (by omega) hlow (fun j hj h=>by
            rcases Nat.lt_or_ge ((lo+hi) / 2) j with g | g
            · have:=SL.rise hs _ j hj g
              have:=(SL.get hs _ hj).2.1;omega
            · have:j=(lo+hi) / 2:=by omega
              subst this;omega)
          have hneg:¬ (if l[(lo+hi) / 2].f1<x then (-1:Int) else if l[(lo+hi) / 2].f0>x then 1 else 0)<0:=by rw [if_neg t];split <;> omega
          simp only [gP.l0,gP.l0T,decide_eq_true_eq,c1,hm,c2,c3,hrd,abq,Option.bind_some,hneg,if_true,if_false];exact r1
      · have he:lo=hi:=by omega
        subst he;have c1:¬ (lo:Int)<(lo:Int):=by omega
        refine Ev.step (f:=fun _=>some (lD l x)) (fun k => ?_) (Ev.now _);by_cases hlast:lo<l.length
        · have hx:=hhigh lo hlast (by omega)
          have c2:(lo:Int)<(l.length:Int):=by omega
          have c3:(0:Int)≤(lo:Int):=by omega
          have c4:¬ l[lo].f1<x:=by omega
          have hh:lD l x=decide (¬ l[lo].f0>x):=by
            rw [Bool.eq_iff_iff];simp only [decide_eq_true_eq,nu];constructor
            · rintro ⟨s,hmem,h1,h2⟩
              obtain ⟨j,hj,rfl⟩:=List.getElem_of_mem hmem;rcases Nat.lt_or_ge j lo with g | g
              · have:=hlow j hj g;omega
              · rcases Nat.lt_or_ge lo j with g2 | g2
                · have:=SL.rise hs _ j hj g2
                  have:=(SL.get hs _ hlast).2.1;omega
                · have:j=lo:=by omega
                  subst this;omega
            · intro h
              exact ⟨l[lo],List.getElem_mem hlast,by omega,hx⟩
          simp only [gP.l0,gP.l0T,decide_eq_true_eq,c1,c2,c3,agy l lo hlast,c4,if_true,if_false,hh];by_cases g:l[lo].f0>x <;> simp [g]
        · have hl:lo=l.length:=by omega
          have c2:¬ (lo:Int)<(l.length:Int):=by omega
          have hh:lD l x=false:=by
            rw [Bool.eq_false_iff];intro h;obtain ⟨s,hmem,h1,h2⟩:=nu.1 h;obtain ⟨j,hj,rfl⟩:=List.getElem_of_mem hmem;have:=hlow j hj (by omega);omega
          simp only [gP.l0,gP.l0T,decide_eq_true_eq,c1,c2,if_false,hh]
  exact key _ 0 l.length rfl (by omega) (by omega) (by intro j _ h;omega) (by intro j hj h;omega)
end Go.Proofs.YtongeknogcboiaaGreat.Q
namespace Go.Proofs.YtongeknogcboiaaGreat.Q
set_option linter.unusedVariables false
set_option linter.unusedSimpArgs false
open Go.RowKit Go.Proofs.YtongeknogcboiaaGreatW.fP Go.Proofs.YtongeknogcboiaaGreatW.iD M R P
section
variable {α β:Type}
def Ev2 (g:Nat→Nat→Option α) (r:α):Prop:=∃ K,∀ k m,K≤k→K≤m→g k m=some r
theorem Ev2.diag {g:Nat→Nat→Option α} {r:α} (h:Ev2 g r):Ev (fun k=>g k k) r:=let ⟨K,h⟩:=h;⟨K,fun k hk=>h k k hk hk⟩
theorem Ev2.right {g:Nat→Option α} {r:α} (h:Ev g r):Ev2 (fun _ m=>g m) r:=let ⟨K,h⟩:=h;⟨K,fun _ m _ hm=>h m hm⟩
theorem Ev2.oo {g:Nat→Option α} {f:Nat→Nat→α→Option β} {a:α} {r:β} (h:Ev g a) (k:Ev2 (fun n m=>f n m a) r):Ev2 (fun n m=>(g n).bind (f n m)) r:=by
  obtain ⟨K,h⟩:=h;obtain ⟨J,k⟩:=k;exact ⟨max K J,fun n m hn hm=>by show (g n).bind (f n m)=some r;rw [h n (by omega),Option.bind_some];exact k n m (by omega) (by omega)⟩
theorem Ev2.afq {g:Nat→Option α} {f:Nat→Nat→α→Option β} {a:α} {r:β} (h:Ev g a) (k:Ev2 (fun n m=>f n m a) r):Ev2 (fun n m=>(g m).bind (f n m)) r:=by
  obtain ⟨K,h⟩:=h;obtain ⟨J,k⟩:=k;exact ⟨max K J,fun n m hn hm=>by show (g m).bind (f n m)=some r;rw [h m (by omega),Option.bind_some];exact k n m (by omega) (by omega)⟩
theorem Ev2.step {g f:Nat→Nat→Option α} {r:α} (h:∀ k m,g (k+1) m=f k m) (k:Ev2 f r):Ev2 g r:=by
  obtain ⟨K,k⟩:=k;refine ⟨K+1,fun n m hn hm => ?_⟩;obtain ⟨j,rfl⟩:∃ j,n=j+1:=⟨n - 1,by omega⟩;rw [h];exact k j m (by omega) (by omega)
theorem Ev2.yes {c:Prop} [Decidable c] {g f:Nat→Nat→Option α} {r:α} (h:c) (k:Ev2 g r):Ev2 (fun n m=>if c then g n m else f n m) r:=let ⟨K,k⟩:=k;⟨K,fun n m hn hm=>(if_pos h).trans (k n m hn hm)⟩
theorem Ev2.no {c:Prop} [Decidable c] {g f:Nat→Nat→Option α} {r:α} (h:¬ c) (k:Ev2 f r):Ev2 (fun n m=>if c then g n m else f n m) r:=let ⟨K,k⟩:=k;⟨K,fun n m hn hm=>(if_neg h).trans (k n m hn hm)⟩
theorem Ev2.of {g:Nat→Option α} {r:α} (h:Ev g r):Ev2 (fun n _=>g n) r:=let ⟨K,h⟩:=h;⟨K,fun n _ hn _=>h n hn⟩
def Ev3 (g:Nat→Nat→Nat→Option α) (r:α):Prop:=∃ K,∀ k a m,K≤k→K≤a→K≤m→g k a m=some r
theorem Ev3.two {g:Nat→Nat→Nat→Option α} {r:α} (h:Ev3 g r):Ev2 (fun k m=>g k k m) r:=let ⟨K,h⟩:=h;⟨K,fun k m hk hm=>h k k m hk hk hm⟩
theorem Ev3.right {g:Nat→Nat→Option α} {r:α} (h:Ev2 g r):Ev3 (fun _ a m=>g a m) r:=let ⟨K,h⟩:=h;⟨K,fun _ a m _ ha hm=>h a m ha hm⟩
theorem Ev3.oo {g:Nat→Option α} {f:Nat→Nat→Nat→α→Option β} {x:α} {r:β} (h:Ev g x) (k:Ev3 (fun n a m=>f n a m x) r):Ev3 (fun n a m=>(g n).bind (f n a m)) r:=by
  obtain ⟨K,h⟩:=h;obtain ⟨J,k⟩:=k;exact ⟨max K J,fun n a m hn ha hm=>by show (g n).bind (f n a m)=some r;rw [h n (by omega),Option.bind_some];exact k n a m (by omega) (by omega) (by omega)⟩
theorem Ev3.acP {g:Nat→Option α} {f:Nat→Nat→Nat→α→Option β} {x:α} {r:β} (h:Ev g x) (k:Ev3 (fun n a m=>f n a m x) r):Ev3 (fun n a m=>(g a).bind (f n a m)) r:=by
  obtain ⟨K,h⟩:=h;obtain ⟨J,k⟩:=k;exact ⟨max K J,fun n a m hn ha hm=>by show (g a).bind (f n a m)=some r;rw [h a (by omega),Option.bind_some];exact k n a m (by omega) (by omega) (by omega)⟩
theorem Ev3.step {g f:Nat→Nat→Nat→Option α} {r:α} (h:∀ k a m,g (k+1) a m=f k a m) (k:Ev3 f r):Ev3 g r:=by
  obtain ⟨K,k⟩:=k;refine ⟨K+1,fun n a m hn ha hm => ?_⟩;obtain ⟨j,rfl⟩:∃ j,n=j+1:=⟨n - 1,by omega⟩;rw [h];exact k j a m (by omega) (by omega) (by omega)
theorem Ev3.yes {c:Prop} [Decidable c] {g f:Nat→Nat→Nat→Option α} {r:α} (h:c) (k:Ev3 g r):Ev3 (fun n a m=>if c then g n a m else f n a m) r:=let ⟨K,k⟩:=k;⟨K,fun n a m hn ha hm=>(if_pos h).trans (k n a m hn ha hm)⟩
theorem Ev3.no {c:Prop} [Decidable c] {g f:Nat→Nat→Nat→Option α} {r:α} (h:¬ c) (k:Ev3 f r):Ev3 (fun n a m=>if c then g n a m else f n a m) r:=let ⟨K,k⟩:=k;⟨K,fun n a m hn ha hm=>(if_neg h).trans (k n a m hn ha hm)⟩
abbrev F4 (τ:Type):=Int→Int→List (List Sp)→List Gn→τ
abbrev X3T (γ:Type):=F4 (F4 (F4 (F4 (List Sp→F4 (Int→Int→F4 (Int→Option γ))))))
abbrev X4T (γ:Type):=F4 (F4 (F4 (F4 (List Sp→F4 (Int→Int→Int→F4 (Int→Option γ))))))
abbrev X5T (γ:Type):=F4 (F4 (F4 (F4 (List Sp→F4 (Int→Option γ)))))
abbrev X6T (γ:Type):=F4 (F4 (F4 (F4 (List Sp→F4 (Option γ)))))
variable {p c:Int} {core:List (List Sp)} {odd:List Gn}
theorem SL.after {hi:Int} {s u:Sp}:∀ {pre r:List Sp} {lo:Int},SL lo hi (pre++s :: r)→u∈r→s.f1<u.f0
  | [],r,lo,h,hu=>by
    have:=(SL.ticks h.2.2.2 hu).1;omega
  | x :: pre,r,lo,h,hu=>SL.after (pre:=pre) h.2.2.2 hu
def ahv (p c:Int) (core:List (List Sp)) (odd:List Gn) (so:Int→Bool) (s1 i:Int):Option Int→Prop
  | some j=>Ex p c core odd j∧i≤j∧so j=true∧gLo p c core odd j≤s1∧∀ m,Ex p c core odd m→i≤m→m<j→so m=false
  | none=>∀ m,Ex p c core odd m→i≤m→gLo p c core odd m≤s1→so m=false
def agA (p c:Int) (core:List (List Sp)) (odd:List Gn) (so:Int→Bool) (s0 i:Int):Option Int→Prop
  | some j=>Ex p c core odd j∧j≤i∧so j=true∧s0≤gHi p c core odd j∧∀ m,Ex p c core odd m→m≤i→j<m→so m=false
  | none=>∀ m,Ex p c core odd m→m≤i→s0≤gHi p c core odd m→so m=false
def afr (p c:Int) (core:List (List Sp)) (odd:List Gn) (so:Int→Bool):Option Int→Prop
  | some j=>Ex p c core odd j∧so j=true∧∀ m,Ex p c core odd m→so m=true→j≤m
  | none=>∀ m,Ex p c core odd m→so m=false
def aei (p c:Int) (core:List (List Sp)) (odd:List Gn) (so:Int→Bool):Option Int→Prop
  | some j=>Ex p c core odd j∧so j=true∧∀ m,Ex p c core odd m→so m=true→m≤j
  | none=>∀ m,Ex p c core odd m→so m=false
def afs (p c:Int) (core:List (List Sp)) (odd:List Gn) (so:Int→Bool) (set:List Sp):Prop:=∀ m,Ex p c core odd m→so m=true→∃ s∈set,gLo p c core odd m≤s.f1∧s.f0≤gHi p c core odd m
end
variable [Inhabited WT]
variable {p c pa ca:Int} {core ka:List (List Sp)} {odd oa:List Gn} {γ:Type}
theorem ade {W:Nat→List Sp→List Sp→Option Bool} (h:FOK p c core odd) {so:Int→Bool} {set:List Sp} (hso:∀ m,Ex p c core odd m→Ev (fun k=>W k (gT p c core odd m) set) (so m)) (s0 s1:Int):∀ (d:Nat) (b i:Int) (ok:Bool),
    (ok=true→(1099511627777 - i).toNat≤d)→(ok=true→inR i∧fs c core odd i≠[]∧b≤i∧∀ m,Ex p c core odd m→b≤m→i≤m)→(ok=true→∃ i0,Ex p c core odd i0∧i0≤i)→(ok=false→∀ m,Ex p c core odd m→¬ b≤m) →
    ∃ r,ahv p c core odd so s1 b r∧∀ (X0 X1:Nat→Nat→X3T γ) (X2:Nat→Nat→X4T γ) (X3:Nat→Nat→X3T γ) (v:γ),
      (r=none→Ev2 (fun k m=>X0 k m pa ca ka oa p c core odd pa ca ka oa p c core odd set p c core odd s0 s1 p c core odd s0) v∧Ev2 (fun k m=>X1 k m pa ca ka oa p c core odd pa ca ka oa p c core odd set p c core odd s0 s1 p c core odd s0) v∧Ev2 (fun k m=>X3 k m pa ca ka oa p c core odd pa ca ka oa p c core odd set p c core odd s0 s1 p c core odd s0) v) →
      (∀ j,r=some j→Ev2 (fun k m=>X2 k m pa ca ka oa p c core odd pa ca ka oa p c core odd set p c core odd j s0 s1 p c core odd s0) v) →
      Ev3 (fun k k' m=>fG.l1 (fun q1 q2 q3 q4 q5 q6 q7 q8 q9 af ah ai aj ak al q16 am ao ab ap aq q22 au q24 ac aw ax ay az aA x0 x1 x2=>if 0<(q2.length:Int) then (if (gS q2 0).f0>ac then x0 q3 q4 q5 q6 q7 q8 q9 af ah ai aj ak al q16 am ao ab ap aq q22 au q24 ac aw ax ay az aA else ((W k' q2 ab).bind fun t=>if t=true then x1 q3 q4 q5 q6 q7 q8 q9 af ah ai aj ak al q16 am ao ab ap aq q22 au q1 q24 ac aw ax ay az aA else x2 q3 q4 q5 q6 q7 q8 q9 af ah ai aj ak al q16 am ao ab ap aq q22 au q24 ac aw ax ay az aA)) else none)
        (X0 k' m) (X1 k' m) (X2 k' m) (X3 k' m) k i ok pa ca ka oa p c core odd pa ca ka oa p c core odd set p c core odd s0 s1 p c core odd s0) v:=by
  intro d;induction d with
  | zero =>
    intro b i ok h1 h2 h3 h4;have hok:ok=false:=by
      cases ok with
      | true=>have:=(h2 rfl).1;unfold inR at this;have:=h1 rfl;omega
      | false=>rfl
    subst hok;refine ⟨none,fun m hm hi=>(h4 rfl m hm hi).elim,fun X0 X1 X2 X3 v hn hs=>Ev3.step (fun k a m=>rfl) ?_⟩;simp only [fG.l1,fG.l1T];exact Ev3.no (by simp) (Ev3.right (hn rfl).2.2)
  | succ d ih =>
    intro b i ok h1 h2 h3 h4;cases ok with
    | false =>
      refine ⟨none,fun m hm hi=>(h4 rfl m hm hi).elim,fun X0 X1 X2 X3 v hn hs=>Ev3.step (fun k a m=>rfl) ?_⟩;simp only [fG.l1,fG.l1T];exact Ev3.no (by simp) (Ev3.right (hn rfl).2.2)
    | true =>
      obtain ⟨hr,hf,hbi,hall⟩:=h2 rfl;obtain ⟨i0,hi0,hle⟩:=h3 rfl;have hd:=h1 rfl;have hr':=hr;unfold inR at hr';have hth:=qj h.s i;rcases mF h.s i with ⟨e,e1,e2⟩ | ⟨e,e1⟩
      · have ev:thV p c core odd i=gT p c core odd i:=by unfold thV;rw [e1]
        rw [ev] at hth;have hne:¬ ((gT p c core odd i).length:Int)=0:=fun q=>e2 (List.eq_nil_of_length_eq_zero (by omega));have hpos:(0:Int)<((gT p c core odd i).length:Int):=by omega
        have aa:(gS (gT p c core odd i) 0).f0=gLo p c core odd i:=(ada _ e2).2.trans (lI e.n).2.1;by_cases hb:gLo p c core odd i>s1
        · refine ⟨none,fun m hm hi hg => ?_,fun X0 X1 X2 X3 v hn hs=>Ev3.step (fun k a m=>rfl) ?_⟩
          · rcases Int.lt_or_le i m with g | g
            · have:=h.ord i m g e.r hm.r e.n hm.n
              have:=h.s.kT e.n;omega
            · have:m=i:=by have:=hall m hm hi;omega
              subst this;omega
          · simp only [fG.l1,fG.l1T,decide_eq_true_eq,if_true]
            refine (Ev3.oo hth (Ev3.no hne (Ev3.yes hpos (Ev3.yes (by rw [aa];exact hb) ?_))));exact Ev3.right (hn rfl).2.1
        · by_cases hs1:so i=true
          · refine ⟨some i,⟨e,hbi,hs1,by omega,fun m hm q1 q2=>by have:=hall m hm q1;omega⟩,fun X0 X1 X2 X3 v hn hs=>Ev3.step (fun k a m=>rfl) ?_⟩
            simp only [fG.l1,fG.l1T,decide_eq_true_eq,if_true];refine (Ev3.oo hth (Ev3.no hne (Ev3.yes hpos (Ev3.no (by rw [aa];exact hb) (Ev3.acP (hso i e) (Ev3.yes hs1 ?_))))));exact Ev3.right (hs i rfl)
          · have hs1':so i=false:=by simpa using hs1
            obtain ⟨n,n1,n2⟩:=nC h.s i (by omega);obtain ⟨r,r1,r2⟩:=ih (i+1) n.1 n.2 (fun q=>by have:=(n2.1 q).1;omega) (fun q=>⟨(n2.1 q).2.1,(n2.1 q).2.2.1,by have:=(n2.1 q).1;omega,fun m hm hx=>Classical.byContradiction fun hy=>by
              have hmr:=hm.r;unfold inR at hmr;exact hm.n ((n2.1 q).2.2.2 m (by omega) (by omega))⟩) (fun q=>⟨i0,hi0,by have:=(n2.1 q).1;omega⟩) (fun q m hm hx=>by
              have hmr:=hm.r;unfold inR at hmr;exact hm.n ((n2.2 q).2 m (by omega) hm.r))
            have key:∀ m,Ex p c core odd m→b≤m→m=i∨i+1≤m:=fun m hm hx=>by have:=hall m hm hx;omega
            refine ⟨r,?_,fun X0 X1 X2 X3 v hn hs=>Ev3.step (fun k a m=>rfl) ?_⟩
            · cases r with
              | none =>
                intro m hm hx hg;rcases key m hm hx with q | q
                · rw [q];exact hs1'
                · exact r1 m hm q hg
              | some j =>
                obtain ⟨q1,q2,q3,q4,q5⟩:=r1;refine ⟨q1,by omega,q3,q4,fun m hm hx hy => ?_⟩;rcases key m hm hx with q | q
                · rw [q];exact hs1'
                · exact q5 m hm q hy
            · simp only [fG.l1,fG.l1T,decide_eq_true_eq,if_true]
              refine (Ev3.oo hth (Ev3.no hne (Ev3.yes hpos (Ev3.no (by rw [aa];exact hb) (Ev3.acP (hso i e) (Ev3.no hs1 (Ev3.oo n1 ?_)))))));exact r2 X0 X1 X2 X3 v hn hs
      · have ev:thV p c core odd i=[]:=e1
        rw [ev] at hth;refine ⟨none,fun m hm hx hg=>(e (nP h hi0 hm hle (hall m hm hx) hr hf)).elim,fun X0 X1 X2 X3 v hn hs=>Ev3.step (fun k a m=>rfl) ?_⟩;simp only [fG.l1,fG.l1T,decide_eq_true_eq,if_true];exact Ev3.oo hth (Ev3.yes rfl (Ev3.right (hn rfl).1))
theorem aft (h:FOK p c core odd) {so:Int→Bool} {set:List Sp} (hS:SL (-1099511627776) 1099511627776 set) (hso:∀ m,Ex p c core odd m→Ev (fun k=>gZ.f k (gT p c core odd m) set) (so m)) (hh:afs p c core odd so set) :
    ∃ r,afr p c core odd so r∧∀ (X0:Nat→X5T γ) (X1:Nat→X6T γ) (v:γ),(r=none→Ev (fun k=>X1 k pa ca ka oa p c core odd pa ca ka oa p c core odd set p c core odd) v)→(∀ j,r=some j→Ev (fun k=>X0 k pa ca ka oa p c core odd pa ca ka oa p c core odd set p c core odd j) v) →
      Ev2 (fun k k'=>fG.l0 (X0 k') (X1 k') set (set.length:Int) k 0 pa ca ka oa p c core odd pa ca ka oa p c core odd set p c core odd) v:=by
  have hl:set.length≤2199023255553:=by have:=SL.len (lo:=0) hS;omega
  have loop:∀ (rest pre:List Sp),set=pre++rest→(∀ m,Ex p c core odd m→(∃ s∈pre,gLo p c core odd m≤s.f1∧s.f0≤gHi p c core odd m)→so m=false) →
      ∃ r,afr p c core odd so r∧∀ (X0:Nat→X5T γ) (X1:Nat→X6T γ) (v:γ),(r=none→Ev (fun k=>X1 k pa ca ka oa p c core odd pa ca ka oa p c core odd set p c core odd) v)→(∀ j,r=some j→Ev (fun k=>X0 k pa ca ka oa p c core odd pa ca ka oa p c core odd set p c core odd j) v) →
        Ev2 (fun k k'=>fG.l0 (X0 k') (X1 k') set (set.length:Int) k (pre.length:Int) pa ca ka oa p c core odd pa ca ka oa p c core odd set p c core odd) v:=by
    intro rest;induction rest with
    | nil =>
      intro pre hp hi;refine ⟨none,fun m hm => ?_,fun X0 X1 v hn hs=>Ev2.step (fun k m=>rfl) ?_⟩
      · cases e:so m with
        | false=>rfl
        | true =>
          have:=hi m hm (by have:=hh m hm e;rw [hp,List.append_nil] at this;exact this);rw [e] at this;cases this
      · have c1:¬ (pre.length:Int)<(set.length:Int):=by rw [hp];simp
        simp only [fG.l0,fG.l0T,decide_eq_true_eq,c1,if_false];exact Ev2.right (hn rfl)
    | cons s r ih =>
      intro pre hp hi;have hlen:pre.length+1≤set.length:=by rw [hp];simp
      have hrd:gS set (pre.length:Int)=s:=by rw [hp];exact rdS _ _ _
      have c1:(pre.length:Int)<(set.length:Int):=by omega
      have c2:(0:Int)≤(pre.length:Int):=by omega
      have hw:=nx c1 c2 (by omega);obtain ⟨a,a1,a2⟩:=uy h s.f0;have hs0:=SL.ticks hS (s:=s) (by rw [hp];simp);have base:∀ m,Ex p c core odd m→s.f0≤gHi p c core odd m→a.2=true∧a.1≤m:=fun m hm hx=>by
        cases e:a.2 with
        | true=>exact ⟨rfl,(a2.y e).2.2 m hm hx⟩
        | false=>exact ((a2.n e).2 m hm hx).elim
      obtain ⟨b,hb1,hb2⟩:∃ b,(a.2=true→b=a.1)∧(a.2=false→b=1099511627777):=by
        cases a.2 with
        | true=>exact ⟨a.1,fun _=>rfl,(fun q=>by cases q)⟩
        | false=>exact ⟨1099511627777,(fun q=>by cases q),fun _=>rfl⟩
      obtain ⟨x,x1,x2⟩:=ade (pa:=pa) (ca:=ca) (ka:=ka) (oa:=oa) (γ:=γ) h hso s.f0 s.f1 (1099511627777 - a.1).toNat b a.1 a.2 (fun _=>Nat.le_refl _) (fun q=>⟨(a2.y q).1.r,(a2.y q).1.n,Int.le_of_eq (hb1 q),fun m _ hx=>by rw [hb1 q] at hx;exact hx⟩) (fun q=>⟨a.1,(a2.y q).1,Int.le_refl _⟩) (fun q m hm hx=>by have:=hm.r;unfold inR at this;have:=hb2 q;omega);have hb3:∀ m,Ex p c core odd m→s.f0≤gHi p c core odd m→b≤m:=fun m hm hx=>by
        obtain ⟨q1,q2⟩:=base m hm hx;rw [hb1 q1];exact q2
      cases x with
      | some j =>
        obtain ⟨y1,y2,y3,y4,y5⟩:=x1;refine ⟨some j,⟨y1,y3,fun m hm hsm=>Classical.byContradiction fun hlt => ?_⟩,fun X0 X1 v hn hs=>Ev2.step (fun k m=>rfl) ?_⟩
        · obtain ⟨u,hu,u1,u2⟩:=hh m hm hsm
          rw [hp] at hu;rcases List.mem_append.1 hu with hu | hu
          · rw [hi m hm ⟨u,hu,u1,u2⟩] at hsm;cases hsm
          · rcases List.mem_cons.1 hu with rfl | hu
            · rw [y5 m hm (hb3 m hm u2) (by omega)] at hsm;cases hsm
            · have:=SL.after (hp ▸ hS) hu
              have:=h.ord m j (by omega) hm.r y1.r hm.n y1.n;omega
        · simp only [fG.l0,fG.l0T,decide_eq_true_eq,c1,c2,if_true,hrd]
          refine Ev2.oo a1 ?_;exact (x2 _ _ _ _ v (fun e=>by cases e) (fun j' e=>by cases e;exact Ev2.right (hs j rfl))).two
      | none =>
        obtain ⟨z,z1,z2⟩:=ih (pre++[s]) (by rw [hp];simp) (fun m hm ⟨u,hu,u1,u2⟩=>by
          rcases List.mem_append.1 hu with hu | hu
          · exact hi m hm ⟨u,hu,u1,u2⟩
          · simp at hu;subst hu
            exact x1 m hm (hb3 m hm u2) u1)
        refine ⟨z,z1,fun X0 X1 v hn hs=>Ev2.step (fun k m=>rfl) ?_⟩;have hz:=z2 X0 X1 v hn hs;rw [← len1] at hz;simp only [fG.l0,fG.l0T,decide_eq_true_eq,c1,c2,if_true,hrd,hw];refine Ev2.oo a1 ?_;exact (x2 _ _ _ _ v (fun _=>⟨hz,hz,hz⟩) (fun j' e=>by cases e)).two
  exact loop set [] rfl (fun m _ ⟨s,hs,_⟩=>by simp at hs)
end Go.Proofs.YtongeknogcboiaaGreat.Q
namespace Go.Proofs.YtongeknogcboiaaGreat.Q
set_option linter.unusedVariables false
set_option linter.unusedSimpArgs false
open Go.RowKit Go.Proofs.YtongeknogcboiaaGreatW.fP Go.Proofs.YtongeknogcboiaaGreatW.iD M R P
section
abbrev X7T (γ:Type):=F4 (F4 (F4 (F4 (List Sp→F4 (List Sp→Int→Int→F4 (Int→Option γ))))))
abbrev X8T (γ:Type):=F4 (F4 (F4 (F4 (List Sp→F4 (Int→List Sp→Int→Int→F4 (Int→Option γ))))))
abbrev X9T (γ:Type):=F4 (F4 (F4 (F4 (List Sp→F4 (Int→List Sp→Option γ)))))
abbrev ahl (γ:Type):=F4 (F4 (F4 (F4 (List Sp→F4 (List Sp→Option γ)))))
theorem Ev2.swap {α:Type} {g:Nat→Nat→Option α} {r:α} (h:Ev2 g r):Ev2 (fun a m=>g m a) r:=let ⟨K,h⟩:=h;⟨K,fun k m hk hm=>h m k hm hk⟩
theorem Ev3.two' {α:Type} {g:Nat→Nat→Nat→Option α} {r:α} (h:Ev3 g r):Ev2 (fun k m=>g m m k) r:=let ⟨K,h⟩:=h;⟨K,fun k m hk hm=>h m m k hm hm hk⟩
end
variable [Inhabited WT]
variable {p c pa ca:Int} {core ka:List (List Sp)} {odd oa:List Gn} {γ:Type}
theorem aej {W:Nat→List Sp→List Sp→Option Bool} (h:FOK p c core odd) {so:Int→Bool} {set:List Sp} (hso:∀ m,Ex p c core odd m→Ev (fun k=>W k (gT p c core odd m) set) (so m)) (s0 s1:Int):∀ (d:Nat) (b i:Int) (ok:Bool),
    (ok=true→(i+1099511627777).toNat≤d)→(ok=true→inR i∧fs c core odd i≠[]∧i≤b∧∀ m,Ex p c core odd m→m≤b→m≤i)→(ok=true→∃ i0,Ex p c core odd i0∧i≤i0)→(ok=false→∀ m,Ex p c core odd m→¬ m≤b) →
    ∃ r,agA p c core odd so s0 b r∧∀ (X0 X1:Nat→Nat→X7T γ) (X2:Nat→Nat→X8T γ) (X3:Nat→Nat→X7T γ) (v:γ),
      (r=none→Ev2 (fun k m=>X0 k m pa ca ka oa p c core odd pa ca ka oa p c core odd set p c core odd set s0 s1 p c core odd s1) v∧Ev2 (fun k m=>X1 k m pa ca ka oa p c core odd pa ca ka oa p c core odd set p c core odd set s0 s1 p c core odd s1) v∧Ev2 (fun k m=>X3 k m pa ca ka oa p c core odd pa ca ka oa p c core odd set p c core odd set s0 s1 p c core odd s1) v) →
      (∀ j,r=some j→Ev2 (fun k m=>X2 k m pa ca ka oa p c core odd pa ca ka oa p c core odd set p c core odd j set s0 s1 p c core odd s1) v) →
      Ev3 (fun k k' m=>fG.l3 (fun q1 q2 q3 q4 q5 q6 q7 q8 q9 af ah ai aj ak al q16 am ao ab ap aq q22 au q24 ac aw ax ay az aA aB x0 x1 x2=>if 0≤wq ((q2.length:Int) - 1) then (if wq ((q2.length:Int) - 1)<(q2.length:Int) then (if (gS q2 (wq ((q2.length:Int) - 1))).f1<ac then x0 q3 q4 q5 q6 q7 q8 q9 af ah ai aj ak al q16 am ao ab ap aq q22 au q24 ac aw ax ay az aA aB else ((W k' q2 ab).bind fun t=>if t=true then x1 q3 q4 q5 q6 q7 q8 q9 af ah ai aj ak al q16 am ao ab ap aq q22 au q1 q24 ac aw ax ay az aA aB else x2 q3 q4 q5 q6 q7 q8 q9 af ah ai aj ak al q16 am ao ab ap aq q22 au q24 ac aw ax ay az aA aB)) else none) else none)
        (X0 k' m) (X1 k' m) (X2 k' m) (X3 k' m) k i ok pa ca ka oa p c core odd pa ca ka oa p c core odd set p c core odd set s0 s1 p c core odd s1) v:=by
  intro d;induction d with
  | zero =>
    intro b i ok h1 h2 h3 h4;have hok:ok=false:=by
      cases ok with
      | true=>have:=(h2 rfl).1;unfold inR at this;have:=h1 rfl;omega
      | false=>rfl
    subst hok;refine ⟨none,fun m hm hi=>(h4 rfl m hm hi).elim,fun X0 X1 X2 X3 v hn hs=>Ev3.step (fun k a m=>rfl) ?_⟩;simp only [fG.l3,fG.l3T];exact Ev3.no (by simp) (Ev3.right (hn rfl).2.2)
  | succ d ih =>
    intro b i ok h1 h2 h3 h4;cases ok with
    | false =>
      refine ⟨none,fun m hm hi=>(h4 rfl m hm hi).elim,fun X0 X1 X2 X3 v hn hs=>Ev3.step (fun k a m=>rfl) ?_⟩;simp only [fG.l3,fG.l3T];exact Ev3.no (by simp) (Ev3.right (hn rfl).2.2)
    | true =>
      obtain ⟨hr,hf,hbi,hall⟩:=h2 rfl;obtain ⟨i0,hi0,hle⟩:=h3 rfl;have hd:=h1 rfl;have hr':=hr;unfold inR at hr';have hth:=qj h.s i;rcases mF h.s i with ⟨e,e1,e2⟩ | ⟨e,e1⟩
      · have ev:thV p c core odd i=gT p c core odd i:=by unfold thV;rw [e1]
        rw [ev] at hth;have hne:¬ ((gT p c core odd i).length:Int)=0:=fun q=>e2 (List.eq_nil_of_length_eq_zero (by omega));obtain ⟨w1,aC,w3⟩:=adb _ e2 (h.s.rF e).aa3;have w2:0≤wq (((gT p c core odd i).length:Int) - 1):=by rw [w1];exact aC
        have w4:wq (((gT p c core odd i).length:Int) - 1)<((gT p c core odd i).length:Int):=by rw [w1];omega
        have aa:(gS (gT p c core odd i) (wq (((gT p c core odd i).length:Int) - 1))).f1=gHi p c core odd i:=by rw [w1];exact w3.trans (lI e.n).2.2
        by_cases hb:gHi p c core odd i<s0
        · refine ⟨none,fun m hm hi hg => ?_,fun X0 X1 X2 X3 v hn hs=>Ev3.step (fun k a m=>rfl) ?_⟩
          · rcases Int.lt_or_le m i with g | g
            · have:=h.ord m i g hm.r e.r hm.n e.n
              have:=h.s.kT e.n;omega
            · have:m=i:=by have:=hall m hm hi;omega
              subst this;omega
          · simp only [fG.l3,fG.l3T,decide_eq_true_eq,if_true]
            refine (Ev3.oo hth (Ev3.no hne (Ev3.yes w2 (Ev3.yes w4 (Ev3.yes (by rw [aa];exact hb) ?_)))));exact Ev3.right (hn rfl).2.1
        · by_cases hs1:so i=true
          · refine ⟨some i,⟨e,hbi,hs1,by omega,fun m hm q1 q2=>by have:=hall m hm q1;omega⟩,fun X0 X1 X2 X3 v hn hs=>Ev3.step (fun k a m=>rfl) ?_⟩
            simp only [fG.l3,fG.l3T,decide_eq_true_eq,if_true];refine (Ev3.oo hth (Ev3.no hne (Ev3.yes w2 (Ev3.yes w4 (Ev3.no (by rw [aa];exact hb) (Ev3.acP (hso i e) (Ev3.yes hs1 ?_)))))));exact Ev3.right (hs i rfl)
          · have hs1':so i=false:=by simpa using hs1
            obtain ⟨n,n1,n2⟩:=nD h.s i (by omega);obtain ⟨r,r1,r2⟩:=ih (i - 1) n.1 n.2 (fun q=>by have:=(n2.1 q).1;omega) (fun q=>⟨(n2.1 q).2.1,(n2.1 q).2.2.1,by have:=(n2.1 q).1;omega,fun m hm hx=>Classical.byContradiction fun hy=>by
              have hmr:=hm.r;unfold inR at hmr;exact hm.n ((n2.1 q).2.2.2 m (by omega) (by omega))⟩) (fun q=>⟨i0,hi0,by have:=(n2.1 q).1;omega⟩) (fun q m hm hx=>by
              have hmr:=hm.r;unfold inR at hmr;exact hm.n ((n2.2 q).2 m (by omega) hm.r))
            have key:∀ m,Ex p c core odd m→m≤b→m=i∨m≤i - 1:=fun m hm hx=>by have:=hall m hm hx;omega
            refine ⟨r,?_,fun X0 X1 X2 X3 v hn hs=>Ev3.step (fun k a m=>rfl) ?_⟩
            · cases r with
              | none =>
                intro m hm hx hg;rcases key m hm hx with q | q
                · rw [q];exact hs1'
                · exact r1 m hm q hg
              | some j =>
                obtain ⟨q1,q2,q3,q4,q5⟩:=r1;refine ⟨q1,by omega,q3,q4,fun m hm hx hy => ?_⟩;rcases key m hm hx with q | q
                · rw [q];exact hs1'
                · exact q5 m hm q hy
            · simp only [fG.l3,fG.l3T,decide_eq_true_eq,if_true]
              refine (Ev3.oo hth (Ev3.no hne (Ev3.yes w2 (Ev3.yes w4 (Ev3.no (by rw [aa];exact hb) (Ev3.acP (hso i e) (Ev3.no hs1 (Ev3.oo n1 ?_))))))));exact r2 X0 X1 X2 X3 v hn hs
      · have ev:thV p c core odd i=[]:=e1
        rw [ev] at hth;refine ⟨none,fun m hm hx hg=>(e (nP h hm hi0 (hall m hm hx) hle hr hf)).elim,fun X0 X1 X2 X3 v hn hs=>Ev3.step (fun k a m=>rfl) ?_⟩;simp only [fG.l3,fG.l3T,decide_eq_true_eq,if_true];exact Ev3.oo hth (Ev3.yes rfl (Ev3.right (hn rfl).1))
noncomputable def YB [Inhabited WT] {γ:Type} (W:Nat→List Sp→List Sp→Option Bool) (k':Nat):Int→Int→Int→F4 (F4 (F4 (F4 (List Sp→F4 (List Sp→(F4 (F4 (F4 (F4 (List Sp→F4 (List Sp→Option γ))))))→X9T γ→Option γ))))) :=
  fun q1 q2 q3 q4 q5 q6 q7 q8 q9 aG aH aI aJ aK aL q16 aM aN aO aP am q22 ao q24 aQ x0 x1=>(fJ.f k' am q22 ao q24 q3).bind fun t=>fG.l3 (fun p1 p2 p3 p4 p5 p6 p7 p8 p9 ap aq au aw ax ay p16 az aA al aB aC aD aE aF p25 p26 p27 p28 p29 p30 p31 y0 y1 y2=>if 0≤wq ((p2.length:Int) - 1) then (if wq ((p2.length:Int) - 1)<(p2.length:Int) then (if (gS p2 (wq ((p2.length:Int) - 1))).f1<p25 then y0 p3 p4 p5 p6 p7 p8 p9 ap aq au aw ax ay p16 az aA al aB aC aD aE aF p25 p26 p27 p28 p29 p30 p31 else ((W k' p2 al).bind fun t=>if t=true then y1 p3 p4 p5 p6 p7 p8 p9 ap aq au aw ax ay p16 az aA al aB aC aD aE p1 aF p25 p26 p27 p28 p29 p30 p31 else y2 p3 p4 p5 p6 p7 p8 p9 ap aq au aw ax ay p16 az aA al aB aC aD aE aF p25 p26 p27 p28 p29 p30 p31)) else none) else none)
          (fun z1 z2 z3 z4 z5 z6 z7 z8 z9 aa ab z12 ac af ah ai z17 aj ak z20 z21 z22 z23 z24 z25 z26 z27 z28 z29=>x0 z1 z2 z3 z4 z5 z6 z7 z8 z9 aa ab z12 ac af ah ai z17 aj ak z20 z21 z22) (fun z1 z2 z3 z4 z5 z6 z7 z8 z9 aa ab z12 ac af ah ai z17 aj ak z20 z21 z22 z23 z24 z25 z26 z27 z28 z29=>x0 z1 z2 z3 z4 z5 z6 z7 z8 z9 aa ab z12 ac af ah ai z17 aj ak z20 z21 z22)
          (fun z1 z2 z3 z4 z5 z6 z7 z8 z9 aa ab z12 ac af ah ai z17 aj ak z20 z21 z22 z23 z24 z25 z26 z27 z28 z29 z30=>x1 z1 z2 z3 z4 z5 z6 z7 z8 z9 aa ab z12 ac af ah ai z17 aj ak z20 z21 z22 z23) (fun z1 z2 z3 z4 z5 z6 z7 z8 z9 aa ab z12 ac af ah ai z17 aj ak z20 z21 z22 z23 z24 z25 z26 z27 z28 z29=>x0 z1 z2 z3 z4 z5 z6 z7 z8 z9 aa ab z12 ac af ah ai z17 aj ak z20 z21 z22)
          k' t.1 t.2 q4 q5 q6 q7 q8 q9 aG aH aI aJ aK aL q16 aM aN aO aP am q22 ao q24 aQ q2 q3 am q22 ao q24 q3
theorem abu {W:Nat→List Sp→List Sp→Option Bool} (h:FOK p c core odd) {so:Int→Bool} {set:List Sp} (hS:SL (-1099511627776) 1099511627776 set) (hso:∀ m,Ex p c core odd m→Ev (fun k=>W k (gT p c core odd m) set) (so m)) (hh:afs p c core odd so set) :
    ∃ r,aei p c core odd so r∧∀ (X0:Nat→X9T γ) (X1:Nat→ahl γ) (v:γ),(r=none→Ev (fun k=>X1 k pa ca ka oa p c core odd pa ca ka oa p c core odd set p c core odd set) v)→(∀ j,r=some j→Ev (fun k=>X0 k pa ca ka oa p c core odd pa ca ka oa p c core odd set p c core odd j set) v) →
      Ev2 (fun k k'=>fG.l2 (YB W k') (X0 k') (X1 k') k (wq ((set.length:Int) - 1)) pa ca ka oa p c core odd pa ca ka oa p c core odd set p c core odd set) v:=by
  have hl:set.length≤2199023255553:=by have:=SL.len (lo:=0) hS;omega
  have loop:∀ (n:Nat),n≤set.length→(∀ m,Ex p c core odd m→(∃ j,∃ hj:j<set.length,n≤j∧gLo p c core odd m≤set[j].f1∧set[j].f0≤gHi p c core odd m)→so m=false) →
      ∃ r,aei p c core odd so r∧∀ (X0:Nat→X9T γ) (X1:Nat→ahl γ) (v:γ),(r=none→Ev (fun k=>X1 k pa ca ka oa p c core odd pa ca ka oa p c core odd set p c core odd set) v)→(∀ j,r=some j→Ev (fun k=>X0 k pa ca ka oa p c core odd pa ca ka oa p c core odd set p c core odd j set) v) →
        Ev2 (fun k k'=>fG.l2 (YB W k') (X0 k') (X1 k') k ((n:Int) - 1) pa ca ka oa p c core odd pa ca ka oa p c core odd set p c core odd set) v:=by
    intro n;induction n with
    | zero =>
      intro hn hi;refine ⟨none,fun m hm => ?_,fun X0 X1 v hn hs=>Ev2.step (fun k m=>rfl) ?_⟩
      · cases e:so m with
        | false=>rfl
        | true =>
          obtain ⟨u,hu,u1,u2⟩:=hh m hm e;obtain ⟨j,hj,rfl⟩:=List.getElem_of_mem hu;have:=hi m hm ⟨j,hj,Nat.zero_le _,u1,u2⟩;rw [e] at this;cases this
      · simp only [fG.l2,fG.l2T,decide_eq_true_eq]
        exact Ev2.no (by omega) (Ev2.right (hn rfl))
    | succ n ih =>
      intro hn hi;have en:((n+1:Nat):Int) - 1=(n:Int):=by omega
      have hlt:n<set.length:=by omega
      have hrd:=agy set n hlt;have c1:(n:Int)<(set.length:Int):=by omega
      have c2:(0:Int)≤(n:Int):=by omega
      have hw:wq ((n:Int) - 1)=(n:Int) - 1:=je (by omega) (by omega);rw [en];obtain ⟨s,hs⟩:∃ s,set[n]=s:=⟨_,rfl⟩;rw [hs] at hrd;obtain ⟨a,a1,a2⟩:=abm h s.f1;have base:∀ m,Ex p c core odd m→gLo p c core odd m≤s.f1→a.2=true∧m≤a.1:=fun m hm hx=>by
        cases e:a.2 with
        | true=>exact ⟨rfl,(a2.y e).2.2 m hm hx⟩
        | false=>exact ((a2.n e).2 m hm hx).elim
      obtain ⟨b,hb1,hb2⟩:∃ b,(a.2=true→b=a.1)∧(a.2=false→b = -1099511627777):=by
        cases a.2 with
        | true=>exact ⟨a.1,fun _=>rfl,(fun q=>by cases q)⟩
        | false=>exact ⟨-1099511627777,(fun q=>by cases q),fun _=>rfl⟩
      obtain ⟨x,x1,x2⟩:=aej (pa:=pa) (ca:=ca) (ka:=ka) (oa:=oa) (γ:=γ) h hso s.f0 s.f1 (a.1+1099511627777).toNat b a.1 a.2 (fun _=>Nat.le_refl _) (fun q=>⟨(a2.y q).1.r,(a2.y q).1.n,Int.le_of_eq (hb1 q).symm,fun m _ hx=>by rw [hb1 q] at hx;exact hx⟩) (fun q=>⟨a.1,(a2.y q).1,Int.le_refl _⟩) (fun q m hm hx=>by have:=hm.r;unfold inR at this;have:=hb2 q;omega);have hb3:∀ m,Ex p c core odd m→gLo p c core odd m≤s.f1→m≤b:=fun m hm hx=>by
        obtain ⟨q1,q2⟩:=base m hm hx;rw [hb1 q1];exact q2
      cases x with
      | some j =>
        obtain ⟨y1,y2,y3,y4,y5⟩:=x1;refine ⟨some j,⟨y1,y3,fun m hm hsm=>Classical.byContradiction fun hgt => ?_⟩,fun X0 X1 v hn hs=>Ev2.step (fun k m=>rfl) ?_⟩
        · obtain ⟨u,hu,u1,u2⟩:=hh m hm hsm
          obtain ⟨i,hi2,rfl⟩:=List.getElem_of_mem hu;rcases Nat.lt_or_ge n i with g | g
          · rw [hi m hm ⟨i,hi2,g,u1,u2⟩] at hsm;cases hsm
          · rcases Nat.lt_or_ge i n with g2 | g2
            · have:=SL.rise hS i n hlt g2
              rw [hs] at this;have:=h.ord j m (by omega) y1.r hm.r y1.n hm.n;omega
            · have:i=n:=by omega
              subst this;rw [hs] at u1 u2;rw [y5 m hm (hb3 m hm u1) (by omega)] at hsm;cases hsm
        · simp only [fG.l2,fG.l2T,decide_eq_true_eq]
          refine Ev2.yes (by omega) (Ev2.yes c2 (Ev2.yes c1 ?_));rw [hrd];unfold YB;refine Ev2.afq a1 ?_;exact (x2 _ _ _ _ v (fun e=>by cases e) (fun j' e=>by cases e;exact Ev2.of (hs j rfl))).two'
      | none =>
        obtain ⟨z,z1,z2⟩:=ih (by omega) (fun m hm ⟨i,hi2,g,u1,u2⟩=>by
          rcases Nat.lt_or_ge n i with q | q
          · exact hi m hm ⟨i,hi2,q,u1,u2⟩
          · have:i=n:=by omega
            subst this;rw [hs] at u1 u2;exact x1 m hm (hb3 m hm u1) u2)
        refine ⟨z,z1,fun X0 X1 v hn hs=>Ev2.step (fun k m=>rfl) ?_⟩;have hz:=z2 X0 X1 v hn hs;simp only [fG.l2,fG.l2T,decide_eq_true_eq,hw];refine Ev2.yes (by omega) (Ev2.yes c2 (Ev2.yes c1 ?_));rw [hrd];unfold YB;refine Ev2.afq a1 ?_;have hz':=Ev2.swap hz;exact (x2 _ _ _ _ v (fun _=>⟨hz',hz',hz'⟩) (fun j' e=>by cases e)).two'
  have:=loop set.length (Nat.le_refl _) (fun m _ ⟨j,hj,hj2,_⟩=>by omega);rw [je (n:=(set.length:Int) - 1) (by omega) (by omega)];exact this
end Go.Proofs.YtongeknogcboiaaGreat.Q
