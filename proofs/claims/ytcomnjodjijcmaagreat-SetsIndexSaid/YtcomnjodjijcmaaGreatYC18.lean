/- Lemmas for laws of chapter 7: what the functions that they reach compute. No condition of its own. -/
import Derived.Test.YtcomnjodjijcmaaGreatYC17
namespace Go.Proofs.YtcomnjodjijcmaaGreat.Q
set_option linter.unusedVariables false
set_option linter.unusedSimpArgs false
open Go.RowKit Go.Proofs.YtcomnjodjijcmaaGreatW.dB Go.Proofs.YtcomnjodjijcmaaGreatW.eO M R P
section
variable {p c:Int} {core:List (List Sp)} {odd:List Gn}
structure Bes (p c:Int) (core:List (List Sp)) (odd:List Gn) (i:Int):Prop where
  he:(jW p c core odd i).2=0
  up:∀ k,i<k→inR k→fs c core odd k≠[]→gap c core odd i k→(jW p c core odd k).2=0∧jJ (jW p c core odd i).1 (jW p c core odd k).1=true
  dn:∀ k,k<i→inR k→fs c core odd k≠[]→gap c core odd k i→(jW p c core odd k).2=0∧jJ (jW p c core odd k).1 (jW p c core odd i).1=true
  ov:∀ j k,j<i→i<k→inR j→inR k→fs c core odd j≠[]→fs c core odd k≠[]→gap c core odd j i→gap c core odd i k→jJ (jW p c core odd j).1 (jW p c core odd k).1=true
def lN (core:List (List Sp)) (odd:List Gn):Int:=((core.map fun l=>(l.length:Int)).sum)+((odd.map fun g=>(g.f1.length:Int)).sum)
structure GR (p c:Int) (core:List (List Sp)) (odd:List Gn):Prop where
  s:SF p c core odd
  t:TF p core
  b:∀ g∈odd,Bes p c core odd g.f0
theorem agw (x:List Sp) (hx:x≠[]):0<x.length∧(gS x 0).f0=lF x:=agv x hx
theorem kG (h:SF p c core odd) (j:Int):(jW p c core odd j).1.length≤4611686018427387904:=by
  have hs:=(h.uF j).uH;unfold jW;split
  · split
    · simp
    · unfold mM;split
      · simp;omega
      · simp
  · simp
theorem aay (l:List Sp):jJ l []=true:=by unfold jJ;cases l.getLast? <;> rfl
theorem oJ {l:List Int} (h:∀ x∈l,0≤x):0≤l.sum:=by
  induction l with
  | nil=>simp
  | cons a r ih=>have:=h a (by simp);have:=ih (fun x hx=>h x (by simp [hx]));simp;omega
theorem GR.fok (h:GR p c core odd):FOK p c core odd:=FOK.of h.s h.t ⟨fun g hg hgn k hk rk nk gk=>by
    have hb:=h.b g hg;obtain ⟨b1,b2⟩:=hb.up k hk rk nk gk;obtain ⟨j,hj,rfl⟩:=List.getElem_of_mem hg;have hn0:fs c core odd odd[j].f0≠[]:=by rw [zx h.s hj];exact hgn
    have e1:=h.s.uJ (h.s.hidx _ (List.getElem_mem hj)) hn0 hb.he;have e2:=h.s.uJ rk nk b1;rw [h.s.pJ e1,h.s.pJ e2,rJ] at b2;have g1:=lC (p:=p) hn0;have g2:=lC (p:=p) nk;have:=b2 g1.1 g2.1;rw [g1.2.2,g2.2.1] at this;exact this,fun g hg hgn k hk rk nk gk=>by
    have hb:=h.b g hg;obtain ⟨b1,b2⟩:=hb.dn k hk rk nk gk;obtain ⟨j,hj,rfl⟩:=List.getElem_of_mem hg;have hn0:fs c core odd odd[j].f0≠[]:=by rw [zx h.s hj];exact hgn
    have e1:=h.s.uJ (h.s.hidx _ (List.getElem_mem hj)) hn0 hb.he;have e2:=h.s.uJ rk nk b1;rw [h.s.pJ e1,h.s.pJ e2,rJ] at b2;have g1:=lC (p:=p) hn0;have g2:=lC (p:=p) nk;have:=b2 g2.1 g1.1;rw [g2.2.2,g1.2.1] at this;exact this⟩
end
variable [Inhabited WT]
variable {p c:Int} {core:List (List Sp)} {odd:List Gn}
theorem adE (m:MF core odd) (hl:core.length≤6000) (hlo:odd.length≤6000):∃ b,Ev (fun k=>dG.f k p c core odd) b∧(b=true↔SF p c core odd):=by
  have k1:∀ (rest pre:List Gn),odd=pre++rest→pre.Pairwise (fun a b=>a.f0<b.f0) →
      ∃ b,Ev (fun k=>dG.l2 (some false) (some true) odd (odd.length:Int) odd k (pre.length:Int)) b∧(b=true↔(∀ g∈rest,SL (-1099511627776) 1099511627776 g.f1∧inR g.f0)∧odd.Pairwise (fun a b=>a.f0<b.f0)):=by
    intro rest;induction rest with
    | nil =>
      intro pre hp h2;refine ⟨true,Ev.step (f:=fun _=>some true) (fun k => ?_) (Ev.now _),?_⟩
      · have c1:¬ (pre.length:Int)<(odd.length:Int):=by rw [hp];simp
        simp only [dG.l2,dG.l2T,decide_eq_true_eq,c1,if_false]
      · rw [List.append_nil] at hp;subst hp;simp [h2]
    | cons g r ih =>
      intro pre hp h2;have hlen:pre.length+1≤odd.length:=by rw [hp];simp
      have hrd:gG odd (pre.length:Int)=g:=by rw [hp];simp [gG]
      have c1:(pre.length:Int)<(odd.length:Int):=by omega
      have c2:(0:Int)≤(pre.length:Int):=by omega
      have hw:=nx c1 c2 (by omega);have hr:=zy g.f1 (m.mo g (by rw [hp];simp));by_cases hs:slB (-1099511627776) g.f1=true
      · by_cases hi:inR g.f0
        · by_cases ho:∀ a∈pre,a.f0<g.f0
          · obtain ⟨b,b1,b2⟩:=ih (pre++[g]) (by rw [hp];simp) (List.pairwise_append.2 ⟨h2,by simp,fun a ha b hb=>by simp at hb;subst hb;exact ho a ha⟩)
            refine ⟨b,Ev.step (fun k=>rfl) ?_,b2.trans ⟨fun ⟨x,y⟩=>⟨fun a ha=>by rcases List.mem_cons.1 ha with rfl | ha;exact ⟨nR.1 hs,hi⟩;exact x a ha,y⟩,fun ⟨x,y⟩=>⟨fun a ha=>x a (List.mem_cons_of_mem _ ha),y⟩⟩⟩;simp only [dG.l2,dG.l2T,decide_eq_true_eq,c1,c2,if_true,hrd,hw];refine Ev.bind hr (Ev.no (by simp [hs]) ?_);simp only [j5,Option.bind_some];refine Ev.no (by simp [hi]) ?_;rw [len1 _ g];by_cases hz:(pre.length:Int)>0
            · have hw2:wq ((pre.length:Int) - 1)=((pre.length - 1:Nat):Int):=by rw [jf (by omega) (by omega)];omega
              have hpl:pre.length - 1<pre.length:=by omega
              have aa:gG odd ((pre.length - 1:Nat):Int)=pre[pre.length - 1]:=by
                rw [rdG odd (pre.length - 1) (by omega)];simp only [hp];rw [List.getElem_append_left hpl]
              have:=ho _ (List.getElem_mem hpl);simp only [hw2,aa];exact Ev.yes hz (Ev.yes (by omega) (Ev.yes (by omega) (Ev.no (by omega) b1)))
            · exact Ev.no hz b1
          · have hz:0<pre.length:=by
              cases pre with
              | nil=>exact absurd (by simp) ho
              | cons a r=>simp
            have hpl:pre.length - 1<pre.length:=by omega
            have hbad:g.f0≤pre[pre.length - 1].f0:=by
              refine Classical.byContradiction fun hx=>ho fun a ha => ?_;obtain ⟨j,hj,rfl⟩:=List.getElem_of_mem ha;rcases Nat.lt_or_ge j (pre.length - 1) with q | q
              · have:=List.pairwise_iff_getElem.1 h2 j (pre.length - 1) hj hpl q;omega
              · have:j=pre.length - 1:=by omega
                subst this;omega
            refine ⟨false,Ev.step (fun k=>rfl) ?_,(fun e=>by cases e),fun ⟨x,y⟩=>(ho fun a ha => ?_).elim⟩
            · have hw2:wq ((pre.length:Int) - 1)=((pre.length - 1:Nat):Int):=by rw [jf (by omega) (by omega)];omega
              have aa:gG odd ((pre.length - 1:Nat):Int)=pre[pre.length - 1]:=by
                rw [rdG odd (pre.length - 1) (by omega)];simp only [hp];rw [List.getElem_append_left hpl]
              simp only [dG.l2,dG.l2T,decide_eq_true_eq,c1,c2,if_true,hrd,hw];refine Ev.bind hr (Ev.no (by simp [hs]) ?_);simp only [j5,Option.bind_some,hw2,aa];exact Ev.no (by simp [hi]) (Ev.yes (by omega) (Ev.yes (by omega) (Ev.yes (by omega) (Ev.yes hbad (Ev.now _)))))
            · rw [hp] at y
              exact (List.pairwise_append.1 y).2.2 a ha g (by simp)
        · refine ⟨false,Ev.step (fun k=>rfl) ?_,(fun e=>by cases e),fun ⟨x,y⟩=>(hi (x g (by simp)).2).elim⟩
          simp only [dG.l2,dG.l2T,decide_eq_true_eq,c1,c2,if_true,hrd,hw];refine Ev.bind hr (Ev.no (by simp [hs]) ?_);simp only [j5,Option.bind_some];exact Ev.yes (by simp [hi]) (Ev.now _)
      · refine ⟨false,Ev.step (fun k=>rfl) ?_,(fun e=>by cases e),fun ⟨x,y⟩=>(hs (nR.2 (x g (by simp)).1)).elim⟩
        simp only [dG.l2,dG.l2T,decide_eq_true_eq,c1,c2,if_true,hrd,hw];exact Ev.bind hr (Ev.yes (by simp [hs]) (Ev.now _))
  have k0:∀ (rest pre:List (List Sp)),core=pre++rest→∀ (Y:Nat→Option Bool) (b:Bool),Ev Y b →
      Ev (fun k=>dG.l1 (some false) (Y k) core (core.length:Int) k (pre.length:Int)) (rest.all (slB (-1099511627776))&&b):=by
    intro rest;induction rest with
    | nil =>
      intro pre hp Y b hY;refine Ev.step (fun k=>rfl) ?_;have c1:¬ (pre.length:Int)<(core.length:Int):=by rw [hp];simp
      simp only [dG.l1,dG.l1T,decide_eq_true_eq,c1,if_false];exact Ev.shift hY
    | cons l r ih =>
      intro pre hp Y b hY;have hlen:pre.length+1≤core.length:=by rw [hp];simp
      have hrd:gL core (pre.length:Int)=l:=by rw [hp];simp [gL]
      have c1:(pre.length:Int)<(core.length:Int):=by omega
      have c2:(0:Int)≤(pre.length:Int):=by omega
      have hw:=nx c1 c2 (by omega);have hr:=zy l (m.mc l (by rw [hp];simp));refine Ev.step (fun k=>rfl) ?_;simp only [dG.l1,dG.l1T,decide_eq_true_eq,c1,c2,if_true,hrd,hw,List.all_cons];by_cases hs:slB (-1099511627776) l=true
      · rw [hs,Bool.true_and]
        have:=ih (pre++[l]) (by rw [hp];simp) (fun k=>Y (k+1)) b (Ev.shift hY);rw [← len1] at this;exact Ev.bind hr (Ev.no (by simp [hs]) this)
      · have hs':slB (-1099511627776) l=false:=by simpa using hs
        rw [hs',Bool.false_and,Bool.false_and];exact Ev.bind hr (Ev.yes (by simp [hs]) (Ev.now _))
  have wrong:∀ {P:Prop},false=true→P:=fun e=>by cases e
  unfold dG.f;by_cases hc:c=(core.length:Int)
  · by_cases hz:(decide (c=0)==decide (p=0))=true
    · have hz':decide (c=0)=decide (p=0):=by simpa using hz
      have hz2:c=0↔p=0:=by simpa using hz'
      by_cases hp0:p<0
      · exact ⟨false,Ev.no (by simp [hc]) (Ev.no (by simp [hz']) (Ev.yes (by simpa using hp0) (Ev.now _))),wrong,fun h=>absurd h.hp0 (by omega)⟩
      · by_cases hp1:p>1099511627776
        · exact ⟨false,Ev.no (by simp [hc]) (Ev.no (by simp [hz']) (Ev.no (by simpa using hp0) (Ev.yes (by simpa using hp1) (Ev.now _)))),wrong,fun h=>absurd h.hp1 (by omega)⟩
        · obtain ⟨b,b1,b2⟩:=k1 odd [] rfl List.Pairwise.nil
          have:=k0 core [] rfl _ b b1;refine ⟨_,Ev.no (by simp [hc]) (Ev.no (by simp [hz']) (Ev.no (by simpa using hp0) (Ev.no (by simpa using hp1) this))),?_⟩;rw [Bool.and_eq_true,List.all_eq_true,b2];exact ⟨fun ⟨x1,x2,x3⟩=>⟨hc,by omega,by omega,hz2,fun l hl=>nR.1 (x1 l hl),fun g hg=>(x2 g hg).1,fun g hg=>(x2 g hg).2,x3,hl,hlo⟩,fun h=>⟨fun l hl=>nR.2 (h.hcore l hl),fun g hg=>⟨h.hodd g hg,h.hidx g hg⟩,h.hup⟩⟩
    · refine ⟨false,Ev.no (by simp [hc]) (Ev.yes (by simpa using hz) (Ev.now _)),wrong,fun h=>(hz ?_).elim⟩
      simpa using h.hz
  · exact ⟨false,Ev.yes (by simpa using hc) (Ev.now _),wrong,fun h=>(hc h.hc).elim⟩
theorem agx (x:List Sp) (hx:x≠[]) (hl:x.length≤4611686018427387903):wq ((x.length:Int) - 1)=(x.length:Int) - 1∧0≤(x.length:Int) - 1∧(gS x ((x.length:Int) - 1)).f1=lQ x:=by
  have:=agu x hx hl;rw [tN];exact this
theorem adF (h:SF p c core odd):∃ b,Ev (fun k=>dM.f k p c core odd) b∧(b=true↔TF p core):=by
  have hl:=h.hl;have hp0:=h.hp0;have hp1:=h.hp1;obtain ⟨ne,hne⟩:∃ ne,neL core=ne:=⟨_,rfl⟩;have hmem:∀ x∈ne,x∈core∧x≠[]:=fun x hx=>xV.1 (by rw [hne];exact hx);have hnl:ne.length≤6000:=by rw [← hne];exact Nat.le_trans (List.length_filter_le _ _) hl
  obtain ⟨g,hg⟩:∃ g:Nat→List Sp,g=fun j=>ne.getD j []:=⟨_,rfl⟩;have hgm:∀ j,j<ne.length→g j∈core∧g j≠[]:=fun j hj=>by
    rw [hg];simp only;rw [List.getD_eq_getElem?_getD,List.getElem?_eq_getElem hj];exact hmem _ (List.getElem_mem hj)
  have hgr:∀ j:Nat,gL ne (j:Int)=g j:=fun j=>by rw [hg];simp [gL]
  have hget:∀ j (hj2:j<ne.length),ne[j]=g j:=fun j hj2=>by rw [hg];simp only;rw [List.getD_eq_getElem?_getD,List.getElem?_eq_getElem hj2];rfl
  obtain ⟨Q,hQ⟩:∃ Q:Nat→Prop,Q=fun j=>lQ (g j)<lF (g ((j+1) % ne.length))+(if j+1=ne.length then p else 0):=⟨_,rfl⟩;have k1:∀ (d n:Nat),ne.length - n=d→n≤ne.length→(∀ j,j<n→Q j) →
      ∃ b,Ev (fun k=>dM.l1 (some false) (some true) ne ne (ne.length:Int) p k (n:Int)) b∧(b=true↔∀ j,j<ne.length→Q j):=by
    intro d;induction d with
    | zero =>
      intro n hd hn h1;refine ⟨true,Ev.step (f:=fun _=>some true) (fun k => ?_) (Ev.now _),fun _ j hj=>h1 j (by omega),fun _=>rfl⟩;have c1:¬ (n:Int)<(ne.length:Int):=by omega
      simp only [dM.l1,dM.l1T,decide_eq_true_eq,c1,if_false]
    | succ d ih =>
      intro n hd hn h1;have hlt:n<ne.length:=by omega
      obtain ⟨m,hm0⟩:∃ m,(n+1) % ne.length=m:=⟨_,rfl⟩;have hm:m<ne.length:=by rw [← hm0];exact Nat.mod_lt _ (by omega)
      have q1:(n:Int)<(ne.length:Int):=by clear hm0;omega
      have q2:(0:Int)≤(n:Int):=by clear hm0;omega
      have q3:¬ (ne.length:Int)=0:=by clear hm0;omega
      have q4:(0:Int)≤(m:Int):=by clear hm0;omega
      have q5:(m:Int)<(ne.length:Int):=by clear hm0;omega
      obtain ⟨x,hx0⟩:∃ x,g n=x:=⟨_,rfl⟩;obtain ⟨y,hy0⟩:∃ y,g m=y:=⟨_,rfl⟩;have hx:=hgm n hlt;have hy:=hgm m hm;rw [hx0] at hx;rw [hy0] at hy;have ah:=h.hcore _ hx.1;have ai:=h.hcore _ hy.1;have aj:=ai.ends hy.2;have main:∀ (X:Int),X=(if n+1=ne.length then p else 0)→0≤X→X≤p→∃ b,Ev (fun k=>if (lQ x)≥(wq (lF y+X)) then some false else dM.l1 (some false) (some true) ne ne (ne.length:Int) p k ((n+1:Nat):Int)) b∧(b=true↔∀ j,j<ne.length→Q j):=by
        intro X hX hX0 hX1;rw [jf (n:=lF y+X) (by omega) (by omega)];by_cases hb:lQ x≥lF y+X
        · refine ⟨false,Ev.yes hb (Ev.now _),(fun e=>by cases e),fun hq => ?_⟩
          have:=hq n hlt;simp only [hQ] at this;rw [hm0,hx0,hy0,← hX] at this;omega
        · obtain ⟨b,b1,b2⟩:=ih (n+1) (by omega) (by omega) (fun j hjn=>by
            rcases Nat.lt_or_ge j n with q | q
            · exact h1 j q
            · have:j=n:=by omega
              subst this;rw [hQ];simp only;rw [hm0,hx0,hy0,← hX];omega)
          exact ⟨b,Ev.no hb b1,b2⟩
      obtain ⟨l1,l2,l3⟩:=agx _ hx.2 ah.uH;obtain ⟨f1,f2⟩:=agw _ hy.2;have e0:wq ((n:Int)+1)=((n+1:Nat):Int):=by clear l1 l2 l3 f2;rw [jf (by omega) (by omega)];simp
      have e1:Int.tmod ((n+1:Nat):Int) (ne.length:Int)=(m:Int):=by
        have e2:(((n+1) % ne.length:Nat):Int)=((n+1:Nat):Int) % (ne.length:Int):=Int.natCast_emod _ _;rw [hm0] at e2;exact (Int.tmod_eq_emod_of_nonneg (Int.natCast_nonneg _)).trans e2.symm
      have r1:gL ne (n:Int)=x:=by rw [hgr,hx0]
      have r2:gL ne (m:Int)=y:=by rw [hgr,hy0]
      have q7:((x.length:Int) - 1)<(x.length:Int):=Int.sub_lt_self _ (by decide);have q8:(0:Int)<(y.length:Int):=Int.ofNat_lt.mpr f1;by_cases hlast:n+1=ne.length
      · have q6:((n+1:Nat):Int)=(ne.length:Int):=by rw [hlast]
        obtain ⟨b,b1,b2⟩:=main p (by rw [if_pos hlast]) hp0 (Int.le_refl _);refine ⟨b,Ev.step (fun k => ?_) b1,b2⟩;simp only [dM.l1,dM.l1T,decide_eq_true_eq];rw [if_pos q1,if_pos q2,if_pos q1,if_neg q3,e0,e1,if_pos q4,if_pos q5,if_pos q6,r1,r2,l1,if_pos l2,if_pos q7,if_pos q8,l3,f2]
      · obtain ⟨b,b1,b2⟩:=main 0 (by rw [if_neg hlast]) (Int.le_refl _) hp0
        refine ⟨b,Ev.step (fun k => ?_) b1,b2⟩;have q6:¬ ((n+1:Nat):Int)=(ne.length:Int):=fun e=>hlast (Int.ofNat.inj e);simp only [dM.l1,dM.l1T,decide_eq_true_eq];rw [if_pos q1,if_pos q2,if_pos q1,if_neg q3,e0,e1,if_pos q4,if_pos q5,if_neg q6,r1,r2,l1,if_pos l2,if_pos q7,if_pos q8,l3,f2]
  have fin:(∀ j,j<ne.length→Q j)↔TF p core:=by
    rw [hQ];simp only;constructor
    · intro hj
      have aa:∀ j,j<ne.length→lF (g j)≤lQ (g j):=fun j hj2=>((h.hcore _ (hgm j hj2).1).ends (hgm j hj2).2).2.1;have ab:∀ j,j+1<ne.length→lQ (g j)<lF (g (j+1)):=fun j hj1=>by
        have:=hj j (by omega);rw [Nat.mod_eq_of_lt hj1,if_neg (by omega)] at this;omega
      have ac:∀ (d i j:Nat),j<ne.length→j - i=d→i<j→lQ (g i)<lF (g j):=by
        intro d;induction d with
        | zero=>intro i j hj2 hd hij;omega
        | succ d ih =>
          intro i j hj2 hd hij;by_cases af:i+1=j
          · subst af;exact ab i hj2
          · have a1:=ab i (by omega)
            have a2:=ih (i+1) j hj2 (by omega) (by omega);have a3:=aa (i+1) (by omega);omega
      have hmono:∀ i j,j<ne.length→i≤j→lF (g i)≤lF (g j)∧lQ (g i)≤lQ (g j):=by
        intro i j hj2 hij;rcases Nat.lt_or_ge i j with q | q
        · have a1:=ac _ i j hj2 rfl q
          have a2:=aa i (by omega);have a3:=aa j hj2;omega
        · have:i=j:=by omega
          subst this;omega
      constructor
      · have hpw:ne.Pairwise (fun a b=>lQ a<lF b):=List.pairwise_iff_getElem.2 (fun i j hi hj2 hij=>by rw [hget i hi,hget j hj2];exact ac _ i j hj2 rfl hij)
        rw [← hne] at hpw;unfold neL at hpw;rw [List.pairwise_filter] at hpw;exact hpw.imp (fun hx ha hb=>hx (by simpa using ha) (by simpa using hb))
      · intro a ha b hb hna hnb
        obtain ⟨i,hi,rfl⟩:=List.getElem_of_mem (show a∈ne by rw [← hne];exact xV.2 ⟨ha,hna⟩);obtain ⟨j,hj2,rfl⟩:=List.getElem_of_mem (show b∈ne by rw [← hne];exact xV.2 ⟨hb,hnb⟩);rw [hget i hi,hget j hj2];have hz:=hj (ne.length - 1) (by omega);have e:(ne.length - 1+1) % ne.length=0:=by rw [Nat.sub_add_cancel (by omega)];exact Nat.mod_self _
        rw [e,if_pos (by omega)] at hz;have a1:=(hmono i (ne.length - 1) (by omega) (by omega)).2;have a2:=(hmono 0 j hj2 (by omega)).1;omega
    · intro t j hj
      have hpw:ne.Pairwise (fun a b=>lQ a<lF b):=by
        rw [← hne];unfold neL;rw [List.pairwise_filter];exact t.ta.imp (fun hx ha hb=>hx (by simpa using ha) (by simpa using hb))
      by_cases e:j+1=ne.length
      · rw [if_pos e]
        have e2:(j+1) % ne.length=0:=by rw [e];exact Nat.mod_self _
        rw [e2];exact t.tb _ (hgm j hj).1 _ (hgm 0 (by omega)).1 (hgm j hj).2 (hgm 0 (by omega)).2
      · rw [if_neg e,Nat.mod_eq_of_lt (by omega:j+1<ne.length)]
        have:=List.pairwise_iff_getElem.1 hpw j (j+1) hj (by omega) (by omega);rw [hget j hj,hget (j+1) (by omega)] at this;omega
  have k0:∀ (rest pre:List (List Sp)),core=pre++rest→∀ (Y:Nat→List (List Sp)→Option Bool) (b:Bool),Ev (fun k=>Y k ne) b→Ev (fun k=>dM.l0 (Y k) core (core.length:Int) k (neL pre) (pre.length:Int)) b:=by
    intro rest;induction rest with
    | nil =>
      intro pre hp Y b hY;rw [List.append_nil] at hp;refine Ev.step (fun k=>rfl) ?_;have c1:¬ (pre.length:Int)<(core.length:Int):=by rw [hp];omega
      simp only [dM.l0,dM.l0T,decide_eq_true_eq,c1,if_false];rw [← hp,hne];exact Ev.shift hY
    | cons l r ih =>
      intro pre hp Y b hY;have hlen:pre.length+1≤core.length:=by rw [hp];simp
      have hrd:gL core (pre.length:Int)=l:=by rw [hp];simp [gL]
      have c1:(pre.length:Int)<(core.length:Int):=by omega
      have c2:(0:Int)≤(pre.length:Int):=by omega
      have hw:=nx c1 c2 (by omega);have b1:=ih (pre++[l]) (by rw [hp];simp) (fun k=>Y (k+1)) b (Ev.shift hY);have hnp:(neL pre).length≤pre.length:=List.length_filter_le _ _;refine Ev.step (fun k=>rfl) ?_;simp only [dM.l0,dM.l0T,decide_eq_true_eq,c1,c2,if_true,hrd,hw];rw [adD,← len1] at b1;by_cases hz:l=[]
      · rw [if_pos hz] at b1
        exact Ev.no (by rw [hz];simp) b1
      · rw [if_neg hz] at b1
        have:0<l.length:=List.length_pos_iff.2 hz;exact Ev.yes (by omega) (Ev.yes (by omega) b1)
  obtain ⟨b,b1,b2⟩:=k1 _ 0 rfl (by omega) (fun j hj=>by omega);exact ⟨b,k0 core [] rfl (fun k y=>dM.l1 (some false) (some true) y y (y.length:Int) p k 0) b b1,b2.trans fin⟩
theorem ab8 (h:SF p c core odd) (i:Int) (hi:inR i):∃ b,Ev (fun k=>iV.f k p c core odd i) b∧(b=true↔Bes p c core odd i):=by
  have hi':=hi;unfold inR at hi';obtain ⟨lo,lo1,lo2⟩:=ab7 h i (by omega);obtain ⟨up,aa,ah⟩:=ab6 h i (by omega);have hah:∀ k j m,fJ.f k (jW p c core odd j).1 m=some (jJ (jW p c core odd j).1 m):=fun k j m=>ab0 _ _ _ (kG h j);have ai:∀ k (m:List Sp),fJ.f k ([]:List Sp) m=some true:=fun k m=>by rw [ab0 _ _ _ (by simp)];simp [jJ]
  have aj:=aay;have hup:up.2=true→∀ k,i<k→inR k→fs c core odd k≠[]→gap c core odd i k→k=up.1:=by
    intro e k h1 h2 h3 h4;obtain ⟨a1,a2,a3,a4⟩:=ah.1 e;unfold inR at h2 a2;rcases Int.lt_trichotomy k up.1 with g | g | g
    · exact absurd (a4 k (by omega) g) h3
    · exact g
    · exact absurd (h4 up.1 (by omega) g) a3
  have af:up.2=false→∀ k,i<k→inR k→fs c core odd k≠[]→False:=by
    intro e k h1 h2 h3;obtain ⟨_,a4⟩:=ah.2 e;have h2':=h2;unfold inR at h2';exact h3 (a4 k (by omega) h2)
  have ak:up.2=true→i<up.1∧inR up.1∧fs c core odd up.1≠[]∧gap c core odd i up.1:=fun e=>by
    obtain ⟨a1,a2,a3,a4⟩:=ah.1 e;exact ⟨by omega,a2,a3,fun m h1 h2=>a4 m (by unfold inR at a2;omega) h2⟩
  have hdn:lo.2=true→∀ k,k<i→inR k→fs c core odd k≠[]→gap c core odd k i→k=lo.1:=by
    intro e k h1 h2 h3 h4;obtain ⟨a1,a2,a3,a4⟩:=lo2.1 e;unfold inR at h2 a2;rcases Int.lt_trichotomy k lo.1 with g | g | g
    · exact absurd (h4 lo.1 g (by omega)) a3
    · exact g
    · exact absurd (a4 k (by omega) g) h3
  have ab:lo.2=false→∀ k,k<i→inR k→fs c core odd k≠[]→False:=by
    intro e k h1 h2 h3;obtain ⟨_,a4⟩:=lo2.2 e;have h2':=h2;unfold inR at h2';exact h3 (a4 k (by omega) h2)
  have am:lo.2=true→lo.1<i∧inR lo.1∧fs c core odd lo.1≠[]∧gap c core odd lo.1 i:=fun e=>by
    obtain ⟨a1,a2,a3,a4⟩:=lo2.1 e;exact ⟨by omega,a2,a3,fun m h1 h2=>a4 m (by unfold inR at a2;omega) h1⟩
  have wrong:∀ {P:Prop},false=true→P:=fun e=>by cases e
  simp only [iV.f,Bool.not_eq_true',decide_eq_false_iff_not];by_cases h0:(jW p c core odd i).2=0
  case neg=>exact ⟨false,Ev.bind (jN h i) (Ev.yes h0 (Ev.now _)),wrong,fun b=>(h0 b.he).elim⟩
  by_cases hlo:lo.2=true
  · obtain ⟨n1,n2,n3,n4⟩:=am hlo
    by_cases h1:(jW p c core odd lo.1).2=0
    case neg=>exact ⟨false,Ev.bind (jN h i) (Ev.no (fun q=>q h0) (Ev.bind lo1 (Ev.bind aa (Ev.yes hlo (Ev.bind (jN h lo.1) (Ev.yes h1 (Ev.now _))))))),wrong,fun b=>(h1 (b.dn _ n1 n2 n3 n4).1).elim⟩
    by_cases hu:up.2=true
    · obtain ⟨m1,m2,m3,m4⟩:=ak hu
      by_cases h2:(jW p c core odd up.1).2=0
      case neg=>exact ⟨false,Ev.bind (jN h i) (Ev.no (fun q=>q h0) (Ev.bind lo1 (Ev.bind aa (Ev.yes hlo (Ev.bind (jN h lo.1) (Ev.no (fun q=>q h1) (Ev.yes hu (Ev.bind (jN h up.1) (Ev.yes h2 (Ev.now _))))))))))
        , wrong,fun b=>(h2 (b.up _ m1 m2 m3 m4).1).elim⟩
      refine ⟨jJ (jW p c core odd lo.1).1 (jW p c core odd i).1&&(jJ (jW p c core odd i).1 (jW p c core odd up.1).1&&jJ (jW p c core odd lo.1).1 (jW p c core odd up.1).1),Ev.bind (jN h i) (Ev.no (fun q=>q h0) (Ev.bind lo1 (Ev.bind aa (Ev.yes hlo (Ev.bind (jN h lo.1) (Ev.no (fun q=>q h1) (Ev.yes hu (Ev.bind (jN h up.1) (Ev.no (fun q=>q h2) ?_))))))))),?_⟩
      · simp only [hah,Option.bind_some]
        cases jJ (jW p c core odd lo.1).1 (jW p c core odd i).1 <;> cases jJ (jW p c core odd i).1 (jW p c core odd up.1).1 <;> simp <;> exact Ev.now _
      · simp only [Bool.and_eq_true]
        exact ⟨fun ⟨e1,e2,e3⟩=>⟨h0,fun k a b c' d=>by have:=hup hu k a b c' d;subst this;exact ⟨h2,e2⟩,fun k a b c' d=>by have:=hdn hlo k a b c' d;subst this;exact ⟨h1,e1⟩,fun j k a b c' d e f g q=>by have:=hup hu k b d f q;subst this;have:=hdn hlo j a c' e g;subst this;exact e3⟩,
          fun b=>⟨(b.dn _ n1 n2 n3 n4).2,(b.up _ m1 m2 m3 m4).2,b.ov _ _ n1 m1 n2 m2 n3 m3 n4 m4⟩⟩
    · refine ⟨jJ (jW p c core odd lo.1).1 (jW p c core odd i).1,Ev.bind (jN h i) (Ev.no (fun q=>q h0) (Ev.bind lo1 (Ev.bind aa (Ev.yes hlo (Ev.bind (jN h lo.1) (Ev.no (fun q=>q h1) (Ev.no hu ?_))))))),?_⟩
      · simp only [hah,aj,Option.bind_some]
        cases jJ (jW p c core odd lo.1).1 (jW p c core odd i).1 <;> exact Ev.now _
      · have hu':up.2=false:=by simpa using hu
        exact ⟨fun e1=>⟨h0,fun k a b c' d=>(af hu' k a b c').elim,fun k a b c' d=>by have:=hdn hlo k a b c' d;subst this;exact ⟨h1,e1⟩,fun j k a b c' d e f g q=>(af hu' k b d f).elim⟩,fun b=>(b.dn _ n1 n2 n3 n4).2⟩
  · have ac:lo.2=false:=by simpa using hlo
    by_cases hu:up.2=true
    · obtain ⟨m1,m2,m3,m4⟩:=ak hu
      by_cases h2:(jW p c core odd up.1).2=0
      case neg=>exact ⟨false,Ev.bind (jN h i) (Ev.no (fun q=>q h0) (Ev.bind lo1 (Ev.bind aa (Ev.no hlo (Ev.yes hu (Ev.bind (jN h up.1) (Ev.yes h2 (Ev.now _)))))))),wrong,fun b=>(h2 (b.up _ m1 m2 m3 m4).1).elim⟩
      refine ⟨jJ (jW p c core odd i).1 (jW p c core odd up.1).1,Ev.bind (jN h i) (Ev.no (fun q=>q h0) (Ev.bind lo1 (Ev.bind aa (Ev.no hlo (Ev.yes hu (Ev.bind (jN h up.1) (Ev.no (fun q=>q h2) ?_))))))),?_⟩
      · simp only [hah,ai,Option.bind_some]
        cases jJ (jW p c core odd i).1 (jW p c core odd up.1).1 <;> exact Ev.now _
      · exact ⟨fun e2=>⟨h0,fun k a b c' d=>by have:=hup hu k a b c' d;subst this;exact ⟨h2,e2⟩,fun k a b c' d=>(ab ac k a b c').elim,fun j k a b c' d e f g q=>(ab ac j a c' e).elim⟩,fun b=>(b.up _ m1 m2 m3 m4).2⟩
    · have hu':up.2=false:=by simpa using hu
      refine ⟨true,Ev.bind (jN h i) (Ev.no (fun q=>q h0) (Ev.bind lo1 (Ev.bind aa (Ev.no hlo (Ev.no hu ?_))))),fun _=>⟨h0,fun k a b c' d=>(af hu' k a b c').elim,fun k a b c' d=>(ab ac k a b c').elim,fun j k a b c' d e f g q=>(ab ac j a c' e).elim⟩,fun _=>rfl⟩;simp only [hah,ai,aj,Option.bind_some];exact Ev.now _
theorem afi (hl:core.length≤6000) (hlo:odd.length≤6000):∃ n,Ev (fun k=>dU.f k p c core odd) n∧(lN core odd≤9223372036854775807→n=lN core odd):=by
  have k1:∀ (rest pre:List Gn),odd=pre++rest→∀ x:Int,∃ n,Ev (fun k=>dU.l1 (fun y=>some y) odd (odd.length:Int) k x (pre.length:Int)) n∧(0≤x→x+(rest.map fun g=>(g.f1.length:Int)).sum≤9223372036854775807→n=x+(rest.map fun g=>(g.f1.length:Int)).sum):=by
    intro rest;induction rest with
    | nil =>
      intro pre hp x;have c1:¬ (pre.length:Int)<(odd.length:Int):=by rw [hp];simp
      exact ⟨x,Ev.step (f:=fun _=>some x) (fun k=>by simp only [dU.l1,dU.l1T,decide_eq_true_eq,c1,if_false]) (Ev.now _),fun _ _=>by simp⟩
    | cons g r ih =>
      intro pre hp x;have hlen:pre.length+1≤odd.length:=by rw [hp];simp
      have hrd:gG odd (pre.length:Int)=g:=by rw [hp];simp [gG]
      have c1:(pre.length:Int)<(odd.length:Int):=by omega
      have c2:(0:Int)≤(pre.length:Int):=by omega
      have hw:=nx c1 c2 (by omega);obtain ⟨n,n1,n2⟩:=ih (pre++[g]) (by rw [hp];simp) (wq (x+(g.f1.length:Int)));rw [← len1] at n1;refine ⟨n,Ev.step (fun k=>rfl) ?_,fun h0 h1 => ?_⟩
      · simp only [dU.l1,dU.l1T,decide_eq_true_eq,c1,c2,if_true,hrd,hw]
        exact n1
      · have h2:0≤(r.map fun g=>(g.f1.length:Int)).sum:=oJ (fun x hx=>by obtain ⟨a,_,rfl⟩:=List.mem_map.1 hx;omega)
        rw [List.map_cons,List.sum_cons] at h1 ⊢;rw [jf (by omega) (by omega)] at n2;rw [n2 (by omega) (by omega)];omega
  have k0:∀ (rest pre:List (List Sp)),core=pre++rest→∀ (Y:Nat→Int→Option Int) (x:Int),(∀ x,∃ n,Ev (fun k=>Y k x) n∧(0≤x→x+(odd.map fun g=>(g.f1.length:Int)).sum≤9223372036854775807→n=x+(odd.map fun g=>(g.f1.length:Int)).sum)) →
      ∃ n,Ev (fun k=>dU.l0 (Y k) core (core.length:Int) k x (pre.length:Int)) n∧(0≤x→x+(rest.map fun l=>(l.length:Int)).sum+(odd.map fun g=>(g.f1.length:Int)).sum≤9223372036854775807→n=x+(rest.map fun l=>(l.length:Int)).sum+(odd.map fun g=>(g.f1.length:Int)).sum):=by
    intro rest;induction rest with
    | nil =>
      intro pre hp Y x hY;obtain ⟨n,n1,n2⟩:=hY x;have c1:¬ (pre.length:Int)<(core.length:Int):=by rw [hp];simp
      refine ⟨n,Ev.step (fun k=>rfl) ?_,fun h0 h1=>by simp at h1 ⊢;exact n2 h0 h1⟩;simp only [dU.l0,dU.l0T,decide_eq_true_eq,c1,if_false];exact Ev.shift n1
    | cons l r ih =>
      intro pre hp Y x hY;have hlen:pre.length+1≤core.length:=by rw [hp];simp
      have hrd:gL core (pre.length:Int)=l:=by rw [hp];simp [gL]
      have c1:(pre.length:Int)<(core.length:Int):=by omega
      have c2:(0:Int)≤(pre.length:Int):=by omega
      have hw:=nx c1 c2 (by omega);obtain ⟨n,n1,n2⟩:=ih (pre++[l]) (by rw [hp];simp) (fun k=>Y (k+1)) (wq (x+(l.length:Int))) (fun x=>let ⟨n,a,b⟩:=hY x;⟨n,Ev.shift a,b⟩);rw [← len1] at n1;refine ⟨n,Ev.step (fun k=>rfl) ?_,fun h0 h1 => ?_⟩
      · simp only [dU.l0,dU.l0T,decide_eq_true_eq,c1,c2,if_true,hrd,hw]
        exact n1
      · have h2:0≤(r.map fun l=>(l.length:Int)).sum:=oJ (fun x hx=>by obtain ⟨a,_,rfl⟩:=List.mem_map.1 hx;omega)
        have h3:0≤(odd.map fun g=>(g.f1.length:Int)).sum:=oJ (fun x hx=>by obtain ⟨a,_,rfl⟩:=List.mem_map.1 hx;omega);rw [List.map_cons,List.sum_cons] at h1 ⊢;rw [jf (by omega) (by omega)] at n2;rw [n2 (by omega) (by omega)];omega
  obtain ⟨n,n1,n2⟩:=k0 core [] rfl (fun k y=>dU.l1 (fun y=>some y) odd (odd.length:Int) k y 0) 0 (fun x=>k1 odd [] rfl x);refine ⟨n,n1,fun h => ?_⟩;unfold lN at h ⊢;rw [n2 (by omega) (by omega)];omega
theorem mP (m:MF core odd) (hl:core.length≤6000) (hlo:odd.length≤6000):∃ n,(Ev (fun k=>dU.f k p c core odd) n∧(lN core odd≤9223372036854775807→n=lN core odd))∧∃ e,Ev (fun k=>dJ.f k p c core odd) e∧(e=0∨e=3∨e=50)∧(e=3↔n>60000)∧(e=0↔n≤60000∧GR p c core odd):=by
  obtain ⟨n,n1,n2⟩:=afi (p:=p) (c:=c) hl hlo;refine ⟨n,⟨n1,n2⟩,?_⟩;obtain ⟨sh,ab,ac⟩:=adE (p:=p) (c:=c) m hl hlo;have z1:¬ decide ((core.length:Int)>6000)=true:=by simp;omega
  have z2:¬ decide ((odd.length:Int)>6000)=true:=by simp;omega
  simp only [dJ.f,dJ.l0];by_cases hn:n>60000
  · exact ⟨3,Ev.no z1 (Ev.no z2 (Ev.bind n1 (Ev.yes (by simpa using hn) (Ev.now _)))),.inr (.inl rfl),⟨fun _=>hn,fun _=>rfl⟩,⟨fun e=>by omega,fun ⟨e,_⟩=>by omega⟩⟩
  have z3:¬ decide (n>60000)=true:=by simpa using hn
  have bad:∀ {q:Prop},¬ q→(50:Int)=0∨(50:Int)=3∨(50:Int)=50∧True→((50:Int)=0∨(50:Int)=3∨(50:Int)=50)∧((50:Int)=3↔n>60000)∧((50:Int)=0↔n≤60000∧q):=fun hq _=>⟨.inr (.inr rfl),⟨fun e=>by omega,fun e=>by omega⟩,⟨fun e=>by omega,fun ⟨_,e⟩=>(hq e).elim⟩⟩;by_cases hs:sh=true
  case neg=>exact ⟨50,Ev.no z1 (Ev.no z2 (Ev.bind n1 (Ev.no z3 (Ev.bind ab (Ev.yes (by simpa using hs) (Ev.now _)))))),bad (fun q=>hs (ac.2 q.s)) (.inr (.inr ⟨rfl,trivial⟩))⟩
  have aa:=ac.1 hs;obtain ⟨tu,af,ah⟩:=adF aa;by_cases ht:tu=true
  case neg=>exact ⟨50,Ev.no z1 (Ev.no z2 (Ev.bind n1 (Ev.no z3 (Ev.bind ab (Ev.no (by simp [hs]) (Ev.bind af (Ev.yes (by simpa using ht) (Ev.now _)))))))),bad (fun q=>ht (ah.2 q.t)) (.inr (.inr ⟨rfl,trivial⟩))⟩
  have ai:=ah.1 ht;have loop:∀ (rest pre:List Gn),odd=pre++rest→∃ e:Int,Ev (fun k=>dJ.l1 (some (50:Int)) (some (0:Int)) odd (odd.length:Int) p c core odd k (pre.length:Int)) e∧(e=0∨e=50)∧(e=0↔∀ g∈rest,Bes p c core odd g.f0):=by
    intro rest;induction rest with
    | nil =>
      intro pre hp;have c1:¬ (pre.length:Int)<(odd.length:Int):=by rw [hp];simp
      exact ⟨0,Ev.step (f:=fun _=>some 0) (fun k=>by simp only [dJ.l1,dJ.l1T,decide_eq_true_eq,c1,if_false]) (Ev.now _),.inl rfl,by simp⟩
    | cons g r ih =>
      intro pre hp;have hlen:pre.length+1≤odd.length:=by rw [hp];simp
      have hrd:gG odd (pre.length:Int)=g:=by rw [hp];simp [gG]
      have c1:(pre.length:Int)<(odd.length:Int):=by omega
      have c2:(0:Int)≤(pre.length:Int):=by omega
      have hw:=nx c1 c2 (by omega);obtain ⟨b,b1,b2⟩:=ab8 aa g.f0 (aa.hidx _ (by rw [hp];simp));by_cases hb:b=true
      · obtain ⟨e,e1,e2,e3⟩:=ih (pre++[g]) (by rw [hp];simp)
        rw [← len1] at e1;refine ⟨e,Ev.step (fun k=>rfl) ?_,e2,by simp [e3,b2.1 hb]⟩;simp only [dJ.l1,dJ.l1T,decide_eq_true_eq,c1,c2,if_true,hrd,hw];exact Ev.bind b1 (Ev.no (by simp [hb]) e1)
      · refine ⟨50,Ev.step (fun k=>rfl) ?_,.inr rfl,(fun e=>by omega),fun q=>(hb (b2.2 (q g (by simp)))).elim⟩
        simp only [dJ.l1,dJ.l1T,decide_eq_true_eq,c1,c2,if_true,hrd,hw];exact Ev.bind b1 (Ev.yes (by simpa using hb) (Ev.now _))
  obtain ⟨e,e1,e2,e3⟩:=loop odd [] rfl;refine ⟨e,Ev.no z1 (Ev.no z2 (Ev.bind n1 (Ev.no z3 (Ev.bind ab (Ev.no (by simp [hs]) (Ev.bind af (Ev.no (by simp [ht]) e1))))))),by omega,⟨fun q=>by omega,fun q=>by omega⟩,fun q=>⟨by omega,aa,ai,e3.1 q⟩,fun q=>e3.2 q.2.b⟩
end Go.Proofs.YtcomnjodjijcmaaGreat.Q
namespace Go.Proofs.YtcomnjodjijcmaaGreat.Q
set_option linter.unusedVariables false
set_option linter.unusedSimpArgs false
open Go.RowKit Go.Proofs.YtcomnjodjijcmaaGreatW.dB Go.Proofs.YtcomnjodjijcmaaGreatW.eO M R P
section
variable {p c:Int} {core:List (List Sp)} {odd:List Gn}
theorem ab9 (k:Nat) (l:List Sp) (h:l.length≤8796093022208):eP.f k l=some l:=by
  unfold eP.f;rw [if_pos h]
theorem qx (n:Int) {a b:List Sp}:b=a.map (fK n)↔a.length=b.length∧∀ j (h1:j<a.length) (h2:j<b.length),b[j].f0 - a[j].f0=n∧b[j].f1 - a[j].f1=n:=by
  constructor
  · rintro rfl
    refine ⟨by simp,fun j h1 h2 => ?_⟩;simp only [List.getElem_map,fK];omega
  · rintro ⟨e,h⟩
    refine List.ext_getElem (by simp [e]) (fun j h1 h2 => ?_);have h3:j<a.length:=by omega
    have:=h j h3 h1;simp only [List.getElem_map,fK];cases hb:b[j] with
    | mk x y=>rw [hb] at this;simp only at this;rw [show x=a[j].f0+n by omega,show y=a[j].f1+n by omega]
def xW (p:Int) (core:List (List Sp)) (d:Nat) (n:Int):Prop:=∀ i (hi:i<core.length),(∀ h:i+d<core.length,core[i+d]=core[i].map (fK n))∧(¬ i+d<core.length→∀ h:i+d - core.length<core.length,core[i+d - core.length]=core[i].map (fK (n - p)))
end
variable [Inhabited WT]
variable {p c:Int} {core:List (List Sp)} {odd:List Gn}
theorem uP (a b:List Sp) (hl:a.length≤4611686018427387904):∃ r,Ev (fun k=>fu.f k a b) r∧(r=true↔a=b):=by
  unfold fu.f dA.f;by_cases e:a.length=b.length
  case neg=>exact ⟨false,Ev.bind (f:=fun _ a=>some a) (Ev.yes (by simp;omega) (Ev.now _)) (Ev.now _),fun q=>(by cases q),fun q=>absurd (congrArg List.length q) e⟩
  have key:∀ (d n:Nat),a.length - n=d→n≤a.length→(∀ j (h1:j<a.length) (h2:j<b.length),j<n→a[j]=b[j])→∃ r,Ev (fun k=>dA.l0 (some false) (some true) a b (a.length:Int) k (n:Int)) r∧(r=true↔a=b):=by
    intro d;induction d with
    | zero =>
      intro n hd hn hi;refine ⟨true,Ev.step (fun k=>rfl) ?_,fun _=>List.ext_getElem e (fun j h1 h2=>hi j h1 h2 (by omega)),fun _=>rfl⟩;have c1:¬ (n:Int)<(a.length:Int):=by omega
      simp only [dA.l0,dA.l0T,decide_eq_true_eq,c1,if_false];exact Ev.now _
    | succ d ih =>
      intro n hd hn hi;have h1:n<a.length:=by omega
      have h2:n<b.length:=by omega
      have c1:(n:Int)<(a.length:Int):=by omega
      have c2:(0:Int)≤(n:Int):=by omega
      have c3:(n:Int)<(b.length:Int):=by omega
      have hw:wq ((n:Int)+1)=((n+1:Nat):Int):=by rw [jf (by omega) (by omega)];simp
      by_cases q:a[n].f0=b[n].f0∧a[n].f1=b[n].f1
      · obtain ⟨r,r1,r2⟩:=ih (n+1) (by omega) (by omega) (fun j g1 g2 hj=>by
          rcases Nat.lt_or_ge j n with g | g
          · exact hi j g1 g2 g
          · have:j=n:=by omega
            subst this;cases ha:a[j] with
            | mk x y =>
              cases hb:b[j] with
              | mk z w=>rw [ha,hb] at q;simp only at q;rw [q.1,q.2])
        refine ⟨r,Ev.step (fun k=>rfl) ?_,r2⟩;simp only [dA.l0,dA.l0T,decide_eq_true_eq,c1,c2,c3,if_true,hw,acH a n h1,acH b n h2];exact Ev.no (by simp [q.1,q.2]) r1
      · refine ⟨false,Ev.step (fun k=>rfl) ?_,fun z=>(by cases z),fun z=>absurd ⟨by simp [z],by simp [z]⟩ q⟩
        simp only [dA.l0,dA.l0T,decide_eq_true_eq,c1,c2,c3,if_true,hw,acH a n h1,acH b n h2];refine Ev.yes ?_ (Ev.now _);simp only [Bool.not_eq_true',Bool.and_eq_false_iff,beq_eq_false_iff_ne];by_cases q1:a[n].f0=b[n].f0
        · exact Or.inr (fun q2=>q ⟨q1,q2⟩)
        · exact Or.inl q1
  obtain ⟨r,r1,r2⟩:=key a.length 0 (by omega) (by omega) (fun j _ _ h=>by omega);exact ⟨r,Ev.bind (f:=fun _ a=>some a) (Ev.no (by simp [e]) r1) (Ev.now _),r2⟩
theorem sU {a b:List Sp} (ha:SL (-1099511627776) 1099511627776 a) (hb:SL (-1099511627776) 1099511627776 b) (n:Int):∃ r,Ev (fun k=>dR.f k a b n) r∧(r=true↔b=a.map (fK n)):=by
  unfold dR.f;have la:=ha.uH;by_cases e:a.length=b.length
  case neg=>exact ⟨false,Ev.yes (by simp;omega) (Ev.now _),fun q=>(by cases q),fun q=>absurd ((qx n).1 q).1 e⟩
  have key:∀ (d m:Nat),a.length - m=d→m≤a.length→(∀ j (h1:j<a.length) (h2:j<b.length),j<m→b[j].f0 - a[j].f0=n∧b[j].f1 - a[j].f1=n)→∃ r,Ev (fun k=>dR.l0 (some false) (some true) b a (a.length:Int) n k (m:Int)) r∧(r=true↔b=a.map (fK n)):=by
    intro d;induction d with
    | zero =>
      intro m hd hm hi;refine ⟨true,Ev.step (fun k=>rfl) ?_,fun _=>(qx n).2 ⟨e,fun j h1 h2=>hi j h1 h2 (by omega)⟩,fun _=>rfl⟩;have c1:¬ (m:Int)<(a.length:Int):=by omega
      simp only [dR.l0,dR.l0T,decide_eq_true_eq,c1,if_false];exact Ev.now _
    | succ d ih =>
      intro m hd hm hi;have h1:m<a.length:=by omega
      have h2:m<b.length:=by omega
      have c1:(m:Int)<(a.length:Int):=by omega
      have c2:(0:Int)≤(m:Int):=by omega
      have c3:(m:Int)<(b.length:Int):=by omega
      have hw:wq ((m:Int)+1)=((m+1:Nat):Int):=by rw [jf (by omega) (by omega)];simp
      have ta:=SL.ticks ha (List.getElem_mem h1);have tb:=SL.ticks hb (List.getElem_mem h2);have w1:wq (b[m].f0 - a[m].f0)=b[m].f0 - a[m].f0:=jf (by omega) (by omega);have w2:wq (b[m].f1 - a[m].f1)=b[m].f1 - a[m].f1:=jf (by omega) (by omega);by_cases q1:b[m].f0 - a[m].f0=n
      · by_cases q2:b[m].f1 - a[m].f1=n
        · obtain ⟨r,r1,r2⟩:=ih (m+1) (by omega) (by omega) (fun j g1 g2 hj=>by
            rcases Nat.lt_or_ge j m with g | g
            · exact hi j g1 g2 g
            · have:j=m:=by omega
              subst this;exact ⟨q1,q2⟩)
          refine ⟨r,Ev.step (fun k=>rfl) ?_,r2⟩;simp only [dR.l0,dR.l0T,decide_eq_true_eq,c1,c2,c3,if_true,hw,acH a m h1,acH b m h2,w1,w2];exact Ev.yes q1 (Ev.no (by simp [q2]) r1)
        · refine ⟨false,Ev.step (fun k=>rfl) ?_,fun z=>(by cases z),fun z=>absurd (((qx n).1 z).2 m h1 h2).2 q2⟩
          simp only [dR.l0,dR.l0T,decide_eq_true_eq,c1,c2,c3,if_true,hw,acH a m h1,acH b m h2,w1,w2];exact Ev.yes q1 (Ev.yes (by simp [q2]) (Ev.now _))
      · refine ⟨false,Ev.step (fun k=>rfl) ?_,fun z=>(by cases z),fun z=>absurd (((qx n).1 z).2 m h1 h2).1 q1⟩
        simp only [dR.l0,dR.l0T,decide_eq_true_eq,c1,c2,c3,if_true,hw,acH a m h1,acH b m h2,w1,w2];exact Ev.no q1 (Ev.now _)
  obtain ⟨r,r1,r2⟩:=key a.length 0 (by omega) (by omega) (fun j _ _ h=>by omega);exact ⟨r,Ev.no (by simp [e]) r1,r2⟩
theorem aaz (h:SF p c core odd):∃ b,Ev (fun k=>eH.f k p c core odd) b∧(b=true↔∀ l∈core,l=[]):=by
  have hl0:=h.hl;unfold eH.f;have key:∀ (rest pre:List (List Sp)),core=pre++rest→(∀ l∈pre,l=[])→∃ b,Ev (fun k=>eH.l0 (fun y=>some (!decide (y≥0))) (some true) core (core.length:Int) k (pre.length:Int)) b∧(b=true↔∀ l∈core,l=[]):=by
    intro rest;induction rest with
    | nil =>
      intro pre hp he;refine ⟨true,Ev.step (f:=fun _=>some true) (fun k => ?_) (Ev.now _),?_⟩
      · have c1:¬ (pre.length:Int)<(core.length:Int):=by rw [hp];simp
        simp only [eH.l0,eH.l0T,decide_eq_true_eq,c1,if_false]
      · simp only [List.append_nil] at hp
        subst hp;exact ⟨fun _=>he,fun _=>rfl⟩
    | cons l r ih =>
      intro pre hp he;have hlen:pre.length+1≤core.length:=by rw [hp];simp
      have hrd:gL core (pre.length:Int)=l:=by rw [hp];simp [gL]
      have c1:(pre.length:Int)<(core.length:Int):=by omega
      have c2:(0:Int)≤(pre.length:Int):=by omega
      have hw:=nx c1 c2 (by omega);by_cases hz:l=[]
      · obtain ⟨x,x1,x2⟩:=ih (pre++[l]) (by rw [hp];simp) (fun y hy=>by rcases List.mem_append.1 hy with hy | hy;exact he y hy;simp at hy;rw [hy];exact hz)
        refine ⟨x,Ev.step (fun k=>rfl) ?_,x2⟩;simp only [eH.l0,eH.l0T,decide_eq_true_eq,c1,c2,if_true,hrd,hw,iH.f,hz,Option.bind_some];rw [len1 _ l];exact x1
      · refine ⟨false,Ev.step (f:=fun _=>some false) (fun k => ?_) (Ev.now _),?_⟩
        · have:((l.length:Int)>0):=by have:=List.length_pos_iff.2 hz;omega
          simp only [eH.l0,eH.l0T,decide_eq_true_eq,c1,c2,if_true,hrd,iH.f,this,Option.bind_some];simp
        · constructor
          · intro e;cases e
          · intro e;exact absurd (e l (by rw [hp];simp)) hz
  exact key core [] rfl (by simp)
theorem acd (h:SF p c core odd) (d:Nat) (hd0:1≤d) (hd:d≤core.length) (n:Int) (hn : -1099511627776≤n∧n≤1099511627776):∃ b,Ev (fun k=>eu.f k p c core odd (d:Int) n) b∧(b=true↔xW p core d n):=by
  have hl0:=h.hl;have hc0:=h.hc;have hp0:=h.hp0;have hp1:=h.hp1;unfold eu.f;have key:∀ (e i:Nat),core.length - i=e→i≤core.length→(∀ j (hj:j<core.length),j<i→(∀ h:j+d<core.length,core[j+d]=core[j].map (fK n))∧(¬ j+d<core.length→∀ h:j+d - core.length<core.length,core[j+d - core.length]=core[j].map (fK (n - p))))→∃ b,Ev (fun k=>eu.l0 (some false) (some true) (d:Int) n core (core.length:Int) p c core k (i:Int)) b∧(b=true↔xW p core d n):=by
    intro e;induction e with
    | zero =>
      intro i he hi hh;refine ⟨true,Ev.step (fun k=>rfl) ?_,fun _ j hj=>hh j hj (by omega),fun _=>rfl⟩;have c1:¬ (i:Int)<(core.length:Int):=by omega
      simp only [eu.l0,eu.l0T,decide_eq_true_eq,c1,if_false];exact Ev.now _
    | succ e ih =>
      intro i he hi hh;have h1:i<core.length:=by omega
      have c1:(i:Int)<(core.length:Int):=by omega
      have c2:(0:Int)≤(i:Int):=by omega
      have hw:wq ((i:Int)+1)=((i+1:Nat):Int):=by rw [jf (by omega) (by omega)];simp
      have w1:wq ((i:Int)+(d:Int))=((i+d:Nat):Int):=by rw [jf (by omega) (by omega)];simp
      have S1:=h.hcore _ (List.getElem_mem h1);by_cases g:i+d<core.length
      · have g1:¬ ((i+d:Nat):Int)≥c:=by omega
        have g2:(0:Int)≤((i+d:Nat):Int):=by omega
        have g3:((i+d:Nat):Int)<(core.length:Int):=by omega
        have w2:wq (n - 0)=n:=by rw [jf (by omega) (by omega)];omega
        obtain ⟨b,b1,b2⟩:=sU S1 (h.hcore _ (List.getElem_mem g)) n;cases b with
        | true =>
          obtain ⟨r,r1,r2⟩:=ih (i+1) (by omega) (by omega) (fun j hj hji=>by
            rcases Nat.lt_or_ge j i with q | q
            · exact hh j hj q
            · have:j=i:=by omega
              subst this;exact ⟨fun _=>b2.1 rfl,fun q=>absurd g q⟩)
          refine ⟨r,Ev.step (fun k=>rfl) ?_,r2⟩;simp only [eu.l0,eu.l0T,decide_eq_true_eq,c1,c2,if_true,hw,w1,w2,g1,g2,g3,if_false,rdL core i h1,rdL core (i+d) g];exact Ev.bind b1 (Ev.no (by simp) r1)
        | false =>
          refine ⟨false,Ev.step (fun k=>rfl) ?_,fun z=>(by cases z),fun z=>(by have:=b2.2 ((z i h1).1 g);cases this)⟩;simp only [eu.l0,eu.l0T,decide_eq_true_eq,c1,c2,if_true,hw,w1,w2,g1,g2,g3,if_false,rdL core i h1,rdL core (i+d) g];exact Ev.bind b1 (Ev.yes rfl (Ev.now _))
      · have g1:((i+d:Nat):Int)≥c:=by omega
        have gk:i+d - core.length<core.length:=by omega
        have w3:wq (((i+d:Nat):Int) - c)=((i+d - core.length:Nat):Int):=by rw [jf (by omega) (by omega)];omega
        have g2:(0:Int)≤((i+d - core.length:Nat):Int):=by omega
        have g3:((i+d - core.length:Nat):Int)<(core.length:Int):=by omega
        have w2:wq (n - p)=n - p:=jf (by omega) (by omega);obtain ⟨b,b1,b2⟩:=sU S1 (h.hcore _ (List.getElem_mem gk)) (n - p);cases b with
        | true =>
          obtain ⟨r,r1,r2⟩:=ih (i+1) (by omega) (by omega) (fun j hj hji=>by
            rcases Nat.lt_or_ge j i with q | q
            · exact hh j hj q
            · have:j=i:=by omega
              subst this;exact ⟨fun q=>absurd q g,fun _ _=>b2.1 rfl⟩)
          refine ⟨r,Ev.step (fun k=>rfl) ?_,r2⟩;simp only [eu.l0,eu.l0T,decide_eq_true_eq,c1,c2,if_true,hw,w1,w2,w3,g1,g2,g3,rdL core i h1,rdL core (i+d - core.length) gk];exact Ev.bind b1 (Ev.no (by simp) r1)
        | false =>
          refine ⟨false,Ev.step (fun k=>rfl) ?_,fun z=>(by cases z),fun z=>(by have:=b2.2 ((z i h1).2 g gk);cases this)⟩;simp only [eu.l0,eu.l0T,decide_eq_true_eq,c1,c2,if_true,hw,w1,w2,w3,g1,g2,g3,rdL core i h1,rdL core (i+d - core.length) gk];exact Ev.bind b1 (Ev.yes rfl (Ev.now _))
  exact key core.length 0 (by omega) (by omega) (fun j _ h=>by omega)
end Go.Proofs.YtcomnjodjijcmaaGreat.Q
namespace Go.Proofs.YtcomnjodjijcmaaGreat.Q
set_option linter.unusedVariables false
set_option linter.unusedSimpArgs false
open Go.RowKit Go.Proofs.YtcomnjodjijcmaaGreatW.dB Go.Proofs.YtcomnjodjijcmaaGreatW.eO M R P
section
variable {p c:Int} {core:List (List Sp)} {odd:List Gn}
structure Rep (p:Int) (core:List (List Sp)) (d:Nat):Prop where
  d0:1≤d
  d1:d ∣ core.length
  d2:(((core.length / d:Nat):Int)) ∣ p
  tn:xW p core d (p / ((core.length / d:Nat):Int))
structure adG (p:Int) (core:List (List Sp)) (r:P.S25):Prop where
  e:(∀ l∈core,l=[])→r=⟨0,0,[],[]⟩
  n:¬ (∀ l∈core,l=[])→∃ d:Nat,Rep p core d∧(∀ d',d'<d→¬ Rep p core d')∧r=⟨p / ((core.length / d:Nat):Int),(d:Int),core.take d,[]⟩
theorem ace (h0:0<core.length):Rep p core core.length:=by
  refine ⟨h0,Nat.dvd_refl _,?_,fun i hi=>⟨fun h=>by omega,fun _ h => ?_⟩⟩
  · rw [Nat.div_self h0];exact ⟨p,by simp⟩
  · have e:p / ((core.length / core.length:Nat):Int) - p=0:=by rw [Nat.div_self h0];simp
    have e2:i+core.length - core.length=i:=by omega
    rw [e];have e3:core[i].map (fK 0)=core[i]:=(List.map_congr_left (fun s _=>show fK 0 s=id s by simp [fK])).trans (List.map_id _);rw [e3];congr 1
theorem adG.sf (h:SF p c core odd) {r:P.S25} (s:adG p core r):SF r.f0 r.f1 r.f2 []∧r.f3=[]:=by
  by_cases hb:∀ l∈core,l=[]
  · rw [s.e hb]
    exact ⟨⟨rfl,by simp,by simp,by simp,by simp,by simp,by simp,List.Pairwise.nil,by simp,by simp⟩,rfl⟩
  · obtain ⟨d,q,_,rfl⟩:=s.n hb
    have hlen:0<core.length:=by
      cases core with
      | nil=>exact absurd (fun l hl=>by cases hl) hb
      | cons a t=>simp
    have hdl:d≤core.length:=Nat.le_of_dvd hlen q.d1;have hq:1≤core.length / d:=Nat.div_pos hdl q.d0;have hp0:=h.hp0;have hp1:=h.hp1;have hc:=h.hc;have hpz:p≠0:=fun e=>by have:=h.hz.2 e;omega
    obtain ⟨y,hy⟩:=q.d2;have hpos:0<((core.length / d:Nat):Int):=by omega
    have hdiv:p / ((core.length / d:Nat):Int)=y:=by rw [hy];exact Int.mul_ediv_cancel_left _ (by omega)
    have hy0:0<y:=by
      rcases Int.lt_or_le 0 y with g | g
      · exact g
      · have:((core.length / d:Nat):Int)*y≤0:=Int.mul_nonpos_of_nonneg_of_nonpos (by omega) g
        omega
    have hyp:y≤p:=by
      have:1*y≤((core.length / d:Nat):Int)*y:=Int.mul_le_mul_of_nonneg_right (by omega) (by omega);omega
    rw [hdiv];show SF y (d:Int) (core.take d) []∧_;have hd0:=q.d0;refine ⟨⟨?_,by omega,by omega,?_,?_,by simp,by simp,List.Pairwise.nil,?_,by simp⟩,rfl⟩
    · simp only [List.length_take];omega
    · constructor <;> intro g <;> omega
    · exact fun l hl=>h.hcore l (List.mem_of_mem_take hl)
    · simp only [List.length_take];have:=h.hl;omega
end
variable [Inhabited WT]
variable {p c:Int} {core:List (List Sp)} {odd:List Gn}
abbrev CX (γ:Type):=Int→Int→(List (List Sp))→(List Gn)→Int→Option γ
abbrev CZ (γ:Type):=Int→Int→(List (List Sp))→(List Gn)→Int→Int→(List (List Sp))→Int→Option γ
abbrev CY (γ:Type):=Int→Int→Int→(List (List Sp))→(List Gn)→Int→CX γ→CZ γ→Option γ
theorem acf (h:SF p c core odd) {β:Type} (d:Nat) (hd:d≤core.length):∀ (e i:Nat),(core.take d).length - i=e→i≤(core.take d).length→∀ (Y:Nat→List (List Sp)→Option β) (v:β),Ev (fun k=>Y k (core.take d)) v→Ev (fun k=>dI.l1 (Y k) (core.take d) ((core.take d).length:Int) k (i:Int) ((core.take d).take i)) v:=by
  have hl:=h.hl;have hll:(core.take d).length≤6000:=by simp only [List.length_take];omega
  intro e;induction e with
  | zero =>
    intro i he hi Y v hY;have e3:(core.take d).take i=core.take d:=List.take_of_length_le (by omega);rw [e3];have c1:¬ (i:Int)<((core.take d).length:Int):=by omega
    refine Ev.step (fun k=>rfl) ?_;simp only [dI.l1,dI.l1T,decide_eq_true_eq,c1,if_false];exact Ev.shift hY
  | succ e ih =>
    intro i he hi Y v hY;have hlt:i<(core.take d).length:=by omega
    have hb:=SL.len (lo:=0) (h.hcore _ (List.mem_of_mem_take (List.getElem_mem hlt)));have ha:∀ k,eP.f k (core.take d)[i]=some (core.take d)[i]:=fun k=>ab9 k _ (by omega);have htk:(core.take d).take i++[(core.take d)[i]]=(core.take d).take (i+1):=(List.take_succ_eq_append_getElem hlt).symm;have hl2:((core.take d).take i).length+1≤5864062014805:=by rw [List.length_take];omega
    have c1:(i:Int)<((core.take d).length:Int):=by omega
    have c2:(0:Int)≤(i:Int):=by omega
    have hrd:=rdL (core.take d) i hlt;have hw:wq ((i:Int)+1)=((i+1:Nat):Int):=by rw [jf (by omega) (by omega)];simp
    have hi2:=ih (i+1) (by omega) (by omega) (fun k=>Y (k+1)) v (Ev.shift hY);rw [← htk] at hi2;refine Ev.step (fun k=>rfl) ?_;simp only [dI.l1,dI.l1T,decide_eq_true_eq,c1,c2,if_true,hrd,hw,ha,Option.bind_some,hl2];exact hi2
theorem adH {γ:Type} {v:γ} (hc:c=core.length) (hl:core.length≤6000) (X0:CZ γ) (X1:CX γ) (h0:0<core.length) (good:Nat→Prop) (dec:∀ d,good d∨¬ good d) {best:Nat} (ab:good best) (hle:best≤core.length) (hdv:best ∣ core.length) (hmin:∀ d,d<best→¬ good d) :
    ∀ (e d:Nat),best - d=e→1≤d→d≤best→∀ (Y:Nat→CY γ),(ac:∀ x0:Nat→CX γ,Ev (fun k=>Y k (best:Int) p c core odd c (x0 k) X0) v)→(∀ d:Nat,1≤d→d<best→d ∣ core.length→∀ x0:Nat→CX γ,Ev (fun k=>x0 k p c core odd c) v→Ev (fun k=>Y k (d:Int) p c core odd c (x0 k) X0) v) →
      Ev (fun k=>dI.l0 (Y k) X0 X1 k (d:Int) p c core odd c) v:=by
  intro e;induction e with
  | zero =>
    intro d he hd0 hd Y hy hn;have:d=best:=by omega
    subst this;have c1:(d:Int)≤c:=by omega
    have c2:¬ (d:Int)=0:=by omega
    have c3:Int.tmod c (d:Int)=0:=by rw [hc];exact Int.tmod_eq_zero_of_dvd (Int.natCast_dvd_natCast.2 hdv)
    refine Ev.step (fun k=>rfl) ?_;simp only [dI.l0,dI.l0T,decide_eq_true_eq,c1,c2,c3,if_true,if_false];exact Ev.shift (hy (fun k z46 z47 z48 z49 z50=>dI.l0 (Y k) X0 X1 (k - 1) (wq ((d:Int)+1)) z46 z47 z48 z49 z50))
  | succ e ih =>
    intro d he hd0 hd Y hy hn;have hlt:d<best:=by omega
    have c1:(d:Int)≤c:=by omega
    have c2:¬ (d:Int)=0:=by omega
    have hw:wq ((d:Int)+1)=((d+1:Nat):Int):=by rw [jf (by omega) (by omega)];simp
    have nxt:=ih (d+1) (by omega) (by omega) (by omega) (fun k=>Y (k+1)) (fun x0=>Ev.shift (g:=fun k=>Y k (best:Int) p c core odd c (x0 (k - 1)) X0) (hy (fun k=>x0 (k - 1)))) (fun d' a1 a2 a3 x0 hx=>Ev.shift (g:=fun k=>Y k (d':Int) p c core odd c (x0 (k - 1)) X0) (hn d' a1 a2 a3 (fun k=>x0 (k - 1)) (Ev.step (fun k=>rfl) hx)));by_cases c3:Int.tmod c (d:Int)=0
    · have aa:d ∣ core.length:=by
        rw [hc] at c3;exact Int.natCast_dvd_natCast.1 (Int.dvd_of_tmod_eq_zero c3)
      refine Ev.step (fun k=>rfl) ?_;simp only [dI.l0,dI.l0T,decide_eq_true_eq,c1,c2,c3,if_true,if_false,hw];exact Ev.shift (g:=fun k=>Y k (d:Int) p c core odd c (fun z46 z47 z48 z49 z50=>dI.l0 (Y k) X0 X1 (k - 1) ((d+1:Nat):Int) z46 z47 z48 z49 z50) X0) (hn d hd0 hlt aa (fun k z46 z47 z48 z49 z50=>dI.l0 (Y k) X0 X1 (k - 1) ((d+1:Nat):Int) z46 z47 z48 z49 z50) (Ev.step (fun k=>rfl) nxt))
    · refine Ev.step (fun k=>rfl) ?_
      simp only [dI.l0,dI.l0T,decide_eq_true_eq,c1,c2,c3,if_true,if_false,hw];exact nxt
end Go.Proofs.YtcomnjodjijcmaaGreat.Q
namespace Go.Proofs.YtcomnjodjijcmaaGreat.Q
set_option linter.unusedVariables false
set_option linter.unusedSimpArgs false
open Go.RowKit Go.Proofs.YtcomnjodjijcmaaGreatW.dB Go.Proofs.YtcomnjodjijcmaaGreatW.eO M R P
section
variable {p c:Int} {core:List (List Sp)} {odd:List Gn}
theorem aiN {x:Int} (h:x=0):¬ (!(decide (x=0)))=true:=by simp [h]
theorem aiX {x:Int} (h:¬ x=0):(!(decide (x=0)))=true:=by simp [h]
theorem least {P:Nat→Prop}:∀ (n:Nat),P n→∃ m,P m∧∀ j,j<m→¬ P j:=by
  intro n;induction n using Nat.strongRecOn with
  | ind n ih =>
    intro h;by_cases e:∃ j,j<n∧P j
    · obtain ⟨j,j1,j2⟩:=e
      exact ih j j1 j2
    · exact ⟨n,h,fun j j1 j2=>e ⟨j,j1,j2⟩⟩
noncomputable def kH (p c:Int) (core:List (List Sp)) (g:Gn):Bool:=@decide (jW p c core [] g.f0=(g.f1,0)) (Classical.propDecidable _)
theorem pK {g:Gn}:kH p c core g=true↔jW p c core [] g.f0=(g.f1,0):=by
  unfold kH;exact @decide_eq_true_iff _ (Classical.propDecidable _)
end
variable [Inhabited WT]
variable {p c:Int} {core:List (List Sp)} {odd:List Gn}
theorem afj (h:SF p c core odd):∃ r,Ev (fun k=>dI.f k p c core odd) r∧adG p core r:=by
  have hc:=h.hc;have hl:=h.hl;have hp0:=h.hp0;have hp1:=h.hp1;unfold dI.f;obtain ⟨b,b1,b2⟩:=aaz h;cases b with
  | true=>exact ⟨⟨0,0,[],[]⟩,Ev.bind b1 (Ev.yes rfl (Ev.now _)),fun _=>rfl,fun q=>absurd (b2.1 rfl) q⟩
  | false =>
    have nb:¬ ∀ l∈core,l=[]:=fun q=>by have:=b2.2 q;cases this
    have h0:0<core.length:=by
      cases core with
      | nil=>exact absurd (fun l hl=>by cases hl) nb
      | cons a t=>simp
    obtain ⟨best,hb,hmin⟩:=least (P:=Rep p core) core.length (ace h0);have ah:best≤core.length:=Nat.le_of_dvd h0 hb.d1;have quo:∀ d:Nat,1≤d→d ∣ core.length→wq (Int.tdiv c (d:Int))=((core.length / d:Nat):Int)∧1≤core.length / d∧core.length / d≤6000:=fun d h1 h2=>by
      have e1:Int.tdiv c (d:Int)=((core.length / d:Nat):Int):=by rw [hc,Int.tdiv_eq_ediv_of_nonneg (by omega)];simp
      have e2:1≤core.length / d:=Nat.div_pos (Nat.le_of_dvd h0 h2) h1;have e3:core.length / d≤core.length:=Nat.div_le_self _ _;exact ⟨by rw [e1];exact jf (by omega) (by omega),e2,by omega⟩
    have pq:∀ m:Nat,1≤m → -1099511627776≤p / (m:Int)∧p / (m:Int)≤1099511627776:=fun m hm=>by
      have e1:0≤p / (m:Int):=Int.ediv_nonneg hp0 (by omega);have e2:p / (m:Int)≤p:=Int.ediv_le_self _ hp0;omega
    refine ⟨⟨p / ((core.length / best:Nat):Int),(best:Int),core.take best,[]⟩,?_,fun q=>absurd q nb,fun _=>⟨best,hb,hmin,rfl⟩⟩;refine Ev.bind b1 (Ev.no (by simp) ?_);refine adH hc hl _ _ h0 (Rep p core) (fun d=>Classical.em _) hb ah hb.d1 hmin (best - 1) 1 rfl (by omega) hb.d0 (fun k aa ac af ab ai aj x0 x1=>(if aa=0 then none else ((gN.f k ac (wq (Int.tdiv af aa))).bind fun t78=>(if (!(decide (t78.2.1=0)))=true then (x0 ac af ab ai aj) else ((eu.f k ac af ab ai aa t78.1).bind fun t79=>(if (!t79)=true then (x0 ac af ab ai aj) else (if 0≤aa then (if aa≤(ab.length:Int) then (dI.l1 (fun ak=>(x1 ac af ab ai t78.1 aa ak aj)) (ab.take (Int.toNat aa)) ((ab.take (Int.toNat aa)).length:Int) k 0 []) else none) else none))))))) (fun x0 => ?_) (fun d d1 d2 d3 x0 hx => ?_)
    · obtain ⟨w,m1,m2⟩:=quo best hb.d0 hb.d1
      have nz:¬ (best:Int)=0:=by have:=hb.d0;omega
      refine Ev.no nz ?_;rw [w];refine Ev.bind (qw p _ (by omega) (by omega)) ?_;have rest:p % ((core.length / best:Nat):Int)=0:=Int.emod_eq_zero_of_dvd hb.d2;obtain ⟨t,t1,t2⟩:=acd h best hb.d0 ah _ (pq _ m1);obtain rfl:=t2.2 hb.tn;have c2:(0:Int)≤(best:Int):=by omega
      have c3:(best:Int)≤(core.length:Int):=by omega
      refine Ev.no (aiN rest) (Ev.bind t1 (Ev.no (by simp) (Ev.yes c2 (Ev.yes c3 ?_))));have:=acf h best ah (core.take best).length 0 (by omega) (by omega) (fun k y=>some (⟨p / ((core.length / best:Nat):Int),(best:Int),y,[]⟩:P.S25)) _ (Ev.now _);exact this
    · obtain ⟨w,m1,m2⟩:=quo d d1 d3
      have nz:¬ (d:Int)=0:=by omega
      refine Ev.no nz ?_;rw [w];refine Ev.bind (qw p _ (by omega) (by omega)) ?_;by_cases rest:p % ((core.length / d:Nat):Int)=0
      · obtain ⟨t,t1,t2⟩:=acd h d d1 (by omega) _ (pq _ m1)
        refine Ev.no (aiN rest) (Ev.bind t1 ?_);cases t with
        | true=>exact absurd ⟨d1,d3,Int.dvd_of_emod_eq_zero rest,t2.1 rfl⟩ (hmin d d2)
        | false=>exact Ev.yes rfl hx
      · exact Ev.yes (aiX rest) hx
theorem adI (h:SF p c core []) (g:Gn):Ev (fun k=>iW.f k p c core [] g.f0 g.f1) (kH p c core g):=by
  unfold iW.f;have hg:=kG h g.f0;refine Ev.bind (jN h g.f0) ?_;by_cases e:(jW p c core [] g.f0).2=0
  · obtain ⟨r,r1,r2⟩:=uP (jW p c core [] g.f0).1 g.f1 hg
    have:kH p c core g=r:=by
      rw [Bool.eq_iff_iff,pK,r2];constructor
      · intro q;rw [q]
      · intro q;exact Prod.ext q e
    rw [this];exact Ev.yes (by simpa using e) (Ev.bind (f:=fun _ a=>some a) r1 (Ev.now _))
  · have:kH p c core g=false:=by
      rw [← Bool.not_eq_true,pK];intro q;rw [q] at e;exact e rfl
    rw [this];exact Ev.no (by simpa using e) (Ev.now _)
structure wS (p:Int) (core:List (List Sp)) (odd:List Gn) (r:P.S25):Prop where
  c:adG p core ⟨r.f0,r.f1,r.f2,[]⟩
  o:r.f3=odd.filter fun g => !kH r.f0 r.f1 r.f2 g
theorem kY (h:SF p c core odd):∃ r,Ev (fun k=>dN.f k p c core odd) r∧wS p core odd r:=by
  have hlo:=h.hlo;unfold dN.f;obtain ⟨r,r1,r2⟩:=afj h;obtain ⟨s,s3⟩:=r2.sf h;refine ⟨⟨r.f0,r.f1,r.f2,odd.filter fun g => !kH r.f0 r.f1 r.f2 g⟩,Ev.bind r1 ?_,?_,rfl⟩
  · rw [s3]
    have key:∀ (rest pre:List Gn),odd=pre++rest→Ev (fun k=>dN.l0 (fun y8=>some (⟨r.f0,r.f1,r.f2,y8⟩:P.S25)) odd (odd.length:Int) r.f0 r.f1 r.f2 [] k (pre.filter fun g => !kH r.f0 r.f1 r.f2 g) (pre.length:Int)) (⟨r.f0,r.f1,r.f2,odd.filter fun g => !kH r.f0 r.f1 r.f2 g⟩:P.S25):=by
      intro rest;induction rest with
      | nil =>
        intro pre hp;have e:odd=pre:=by rw [hp];simp
        have c1:¬ (pre.length:Int)<(odd.length:Int):=by rw [e];omega
        refine Ev.step (fun k=>rfl) ?_;simp only [dN.l0,dN.l0T,decide_eq_true_eq,c1,if_false];rw [e];exact Ev.now _
      | cons g t ih =>
        intro pre hp;have hlen:pre.length+1≤odd.length:=by rw [hp];simp
        have hrd:gG odd (pre.length:Int)=g:=by simp [hp,gG]
        have c1:(pre.length:Int)<(odd.length:Int):=by omega
        have c2:(0:Int)≤(pre.length:Int):=by omega
        have hw:=nx c1 c2 (by omega);have hg:=SL.len (lo:=0) (h.hodd g (by rw [hp];simp));have ha:∀ k,eP.f k g.f1=some g.f1:=fun k=>ab9 k _ (by omega);have hf:(pre.filter fun g => !kH r.f0 r.f1 r.f2 g).length≤pre.length:=List.length_filter_le _ _;have c3:(pre.filter fun g => !kH r.f0 r.f1 r.f2 g).length+1≤4398046511104:=by omega
        have hi:=ih (pre++[g]) (by rw [hp];simp);rw [← len1,List.filter_append] at hi;refine Ev.step (fun k=>rfl) ?_;simp only [dN.l0,dN.l0T,decide_eq_true_eq,c1,c2,if_true,hrd,hw,ha,Option.bind_some,c3];have pl:=adI s g;refine Ev.bind pl ?_;cases q:kH r.f0 r.f1 r.f2 g with
        | false =>
          have e2:([g].filter fun g => !kH r.f0 r.f1 r.f2 g)=[g]:=by simp [q]
          rw [e2] at hi;exact Ev.yes rfl hi
        | true =>
          have e2:([g].filter fun g => !kH r.f0 r.f1 r.f2 g)=[]:=by simp [q]
          rw [e2,List.append_nil] at hi;exact Ev.no (by simp) hi
    exact key odd [] rfl
  · have e:(⟨r.f0,r.f1,r.f2,[]⟩:P.S25)=r:=by
      cases r with
      | mk a b cc d=>simp only at s3;rw [s3]
    show adG p core ⟨r.f0,r.f1,r.f2,[]⟩;rw [e];exact r2
end Go.Proofs.YtcomnjodjijcmaaGreat.Q
namespace Go.Proofs.YtcomnjodjijcmaaGreat.Q
set_option linter.unusedVariables false
set_option linter.unusedSimpArgs false
open Go.RowKit Go.Proofs.YtcomnjodjijcmaaGreatW.dB Go.Proofs.YtcomnjodjijcmaaGreatW.eO M R P
section
variable {p c:Int} {core:List (List Sp)} {odd:List Gn}
theorem jG (a b:Int) (l:List Sp):(l.map (fK a)).map (fK b)=l.map (fK (a+b)):=by
  rw [List.map_map];refine List.map_congr_left (fun s _ => ?_);simp only [Function.comp,fK,Int.add_assoc]
theorem jR (l:List Sp):l.map (fK 0)=l:=(List.map_congr_left (fun s _=>show fK 0 s=id s by simp [fK])).trans (List.map_id l)
def bT (p c:Int) (core:List (List Sp)) (i:Int):List Sp:=(gK c core i).map (fK (i / c*p))
theorem oK (i:Int):gT p c core [] i=bT p c core i:=by simp [gT,bT,fs,fb,jA]
theorem qg (h:SF p c core odd) (q:Int) (j:Nat) (hj:j<core.length):bT p c core (q*c+j)=core[j].map (fK (q*p)):=by
  obtain ⟨e1,e2⟩:=abW h q j hj;unfold bT;rw [e1,e2]
theorem uQ (h:SF p c core odd) {d:Nat} {n:Int} (hd0:1≤d) (hd:d≤core.length) (t:xW p core d n) (i:Int):bT p c core (i+d)=(bT p c core i).map (fK n):=by
  have hc:=h.hc;have c0:0<c:=by omega
  have h1:=Int.emod_nonneg i (show c≠0 by omega);have h2:=Int.emod_lt_of_pos i c0;have h3:=Int.mul_ediv_add_emod i c;rw [Int.mul_comm] at h3;obtain ⟨r,hr⟩:∃ r:Nat,(r:Int)=i % c:=⟨(i % c).toNat,by omega⟩;have hrl:r<core.length:=by omega
  have e0:i=i / c*c+(r:Int):=by omega
  have eb:bT p c core i=core[r].map (fK (i / c*p)):=by
    conv=>lhs;rw [e0]
    exact qg h _ r hrl
  rw [eb,jG];by_cases g:r+d<core.length
  · have e1:i+d=i / c*c+((r+d:Nat):Int):=by omega
    rw [e1,qg h _ (r+d) g,(t r hrl).1 g,jG,Int.add_comm]
  · have g2:r+d - core.length<core.length:=by omega
    have e2:(i / c+1)*c=i / c*c+c:=by rw [Int.add_mul,Int.one_mul]
    have e1:i+d=(i / c+1)*c+((r+d - core.length:Nat):Int):=by omega
    rw [e1,qg h _ _ g2,(t r hrl).2 g g2,jG];congr 2;rw [Int.add_mul,Int.one_mul];omega
theorem zF (h:SF p c core odd) {d:Nat} {n:Int} (hd0:1≤d) (hd:d≤core.length) (t:xW p core d n) (i:Int):∀ q:Nat,bT p c core (i+q*d)=(bT p c core i).map (fK (q*n)):=by
  intro q;induction q with
  | zero=>simp [jR]
  | succ q ih =>
    have e:i+((q+1:Nat):Int)*d=(i+q*d)+d:=by rw [Int.natCast_add,Int.add_mul];simp;omega
    rw [e,uQ h hd0 hd t,ih,jG];congr 2;rw [Int.natCast_add,Int.add_mul];simp
theorem agy (h:SF p c core odd) {d:Nat} {n:Int} (hd0:1≤d) (hd:d≤core.length) (t:xW p core d n) (i q:Int):bT p c core (i+q*d)=(bT p c core i).map (fK (q*n)):=by
  rcases Int.le_total 0 q with g | g
  · obtain ⟨k,rfl⟩:∃ k:Nat,q=(k:Int):=⟨q.toNat,by omega⟩
    exact zF h hd0 hd t i k
  · obtain ⟨k,rfl⟩:∃ k:Nat,q = -(k:Int):=⟨(-q).toNat,by omega⟩
    have:=zF h hd0 hd t (i + -(k:Int)*d) k;have e:i + -(k:Int)*d+(k:Int)*d=i:=by rw [Int.neg_mul];omega
    rw [e] at this;rw [this,jG];have e2:(k:Int)*n + -(k:Int)*n=0:=by rw [Int.neg_mul];omega
    rw [e2,jR]
theorem adG.ticks (h:SF p c core odd) {r:P.S25} (s:adG p core r) (i:Int):gT r.f0 r.f1 r.f2 [] i=gT p c core [] i:=by
  rw [oK,oK];by_cases hb:∀ l∈core,l=[]
  · rw [s.e hb]
    have e1:gK c core i=[]:=by
      refine Classical.byContradiction fun hn => ?_;obtain ⟨_,_,j,hj,_,e⟩:=uK h hn;rw [e] at hn;exact hn (hb _ (List.getElem_mem hj))
    unfold bT;rw [e1];simp [gK]
  · obtain ⟨s1,_⟩:=s.sf h
    obtain ⟨d,q,_,rfl⟩:=s.n hb;have hlen:0<core.length:=by
      cases core with
      | nil=>exact absurd (fun l hl=>by cases hl) hb
      | cons a t=>simp
    have hdl:d≤core.length:=Nat.le_of_dvd hlen q.d1;have hd0:=q.d0;have h1:=Int.emod_nonneg i (show (d:Int)≠0 by omega);have h2:=Int.emod_lt_of_pos i (show (0:Int)<d by omega);have h3:=Int.mul_ediv_add_emod i d;rw [Int.mul_comm] at h3;obtain ⟨j,hj⟩:∃ j:Nat,(j:Int)=i % d:=⟨(i % d).toNat,by omega⟩;have e0:i=(j:Int)+i / d*d:=by omega
    have e1:i=i / d*d+(j:Int):=by omega
    have jl:j<(core.take d).length:=by simp only [List.length_take];omega
    have lhs:=qg s1 (i / d) j jl;rw [← e1] at lhs;have rhs:=agy h hd0 hdl q.tn (j:Int) (i / d);rw [← e0] at rhs;have base:=qg h 0 j (by omega);rw [Int.zero_mul,Int.zero_add,Int.zero_mul,jR] at base;rw [lhs,rhs,base,List.getElem_take]
end
end Go.Proofs.YtcomnjodjijcmaaGreat.Q
namespace Go.Proofs.YtcomnjodjijcmaaGreat.Q
set_option linter.unusedVariables false
set_option linter.unusedSimpArgs false
open Go.RowKit Go.Proofs.YtcomnjodjijcmaaGreatW.dB Go.Proofs.YtcomnjodjijcmaaGreatW.eO M R P
theorem sV {l:List Sp} (h:SL (-1099511627776) 1099511627776 l):mM 0 l=(l,0):=by
  unfold mM;rw [if_pos (List.all_eq_true.2 fun s hs=>rG.2 (by have:=SL.ticks h hs;omega))];have:l.map (fK 0)=l:=(List.map_congr_left (fun s _=>show fK 0 s=id s by simp [fK])).trans (List.map_id l);rw [this]
section
variable {p c:Int} {core:List (List Sp)} {odd:List Gn}
theorem zG {l:List Sp} {x:Int}:l8 l x=true↔∃ s∈l,s.f0≤x∧x≤s.f1:=wK
def thV (p c:Int) (core:List (List Sp)) (odd:List Gn) (i:Int):List Sp:=(jW p c core odd i).1
theorem aaA (h:SF p c core odd) (i:Int):(Ex p c core odd i∧jW p c core odd i=(gT p c core odd i,0)∧gT p c core odd i≠[])∨(¬ Ex p c core odd i∧(jW p c core odd i).1=[]):=by
  by_cases e:Ex p c core odd i
  · exact .inl ⟨e,h.pJ e,(lC e.n).1⟩
  · refine .inr ⟨e,?_⟩
    by_cases hn:fs c core odd i=[]
    · unfold jW;split
      · simp [hn]
      · rfl
    · rw [h.abV hn e]
theorem wM {α:Type} (f:α→Int) (b:Int):∀ {l:List α},(∀ x∈l,f x≤b)→(l.map f).sum≤l.length*b
  | [],_=>by simp
  | x :: r,h=>by
    have:=wM f b (l:=r) (fun y hy=>h y (by simp [hy]));have:=h x (by simp);rw [List.map_cons,List.sum_cons,List.length_cons];rw [Int.natCast_add,Int.add_mul];omega
theorem rM {α:Type} (f:α→Int) (h0:∀ x,0≤f x):∀ {l:List α} {x:α},x∈l→f x≤(l.map f).sum
  | [],x,h=>by cases h
  | y :: r,x,h=>by
    have hs:0≤(r.map f).sum:=oJ (fun z hz=>by obtain ⟨a,_,rfl⟩:=List.mem_map.1 hz;exact h0 a);rw [List.map_cons,List.sum_cons];rcases List.mem_cons.1 h with rfl | h
    · omega
    · have:=rM f h0 h
      have:=h0 y;omega
theorem afk (h:SF p c core odd):lN core odd≤9223372036854775807:=by
  have h1:=wM (fun l:List Sp=>(l.length:Int)) 2199023255553 (l:=core) (fun l hl=>by have:=SL.len (lo:=0) (h.hcore l hl);omega);have h2:=wM (fun g:Gn=>(g.f1.length:Int)) 2199023255553 (l:=odd) (fun g hg=>by have:=SL.len (lo:=0) (h.hodd g hg);omega);have:=h.hl;have:=h.hlo;unfold lN;omega
theorem agz (h:SF p c core odd) (i:Int):((fs c core odd i).length:Int)≤lN core odd:=by
  have n1:0≤(core.map fun l:List Sp=>(l.length:Int)).sum:=oJ (fun z hz=>by obtain ⟨a,_,rfl⟩:=List.mem_map.1 hz;omega);have n2:0≤(odd.map fun g:Gn=>(g.f1.length:Int)).sum:=oJ (fun z hz=>by obtain ⟨a,_,rfl⟩:=List.mem_map.1 hz;omega);unfold lN;unfold fs;cases ho:jA odd i with
  | some l =>
    obtain ⟨g,hg,_,e⟩:=jT ho;have:=rM (fun g:Gn=>(g.f1.length:Int)) (fun _=>by omega) hg;simp only [e] at this;simp only;omega
  | none =>
    by_cases hc:c=0
    · simp only [gK,if_pos hc];simp;omega
    · have:=rM (fun l:List Sp=>(l.length:Int)) (fun _=>by omega) (h.jU i hc)
      simp only at this ⊢;omega
theorem aeh (h:SF p c core odd) (i:Int):((gT p c core odd i).length:Int)≤lN core odd:=by
  have:=agz h i;unfold gT;rw [List.length_map];exact this
end
variable [Inhabited WT]
variable {p c:Int} {core:List (List Sp)} {odd:List Gn}
theorem aaB (m:MF core odd):∃ b,Ev (fun k=>gH.f k p c core odd) b∧(b=true→FOK p c core odd∧GR p c core odd∧core.length≤12∧odd.length≤8∧lN core odd≤60):=by
  have wrong:∀ {P:Prop},false=true→P:=fun e=>by cases e
  unfold gH.f;by_cases hl:(core.length:Int)≤12
  case neg=>exact ⟨false,Ev.bind (a:=false) (Ev.congr (f:=fun _=>some false) (fun k=>by simp [fO.f,hl]) (Ev.now _)) (Ev.now _),wrong⟩
  by_cases hlo:(odd.length:Int)≤8
  case neg=>exact ⟨false,Ev.bind (a:=false) (Ev.congr (f:=fun _=>some false) (fun k=>by simp [fO.f,hl,hlo]) (Ev.now _)) (Ev.now _),wrong⟩
  obtain ⟨n,⟨n1,n2⟩,e,e1,e2,e3,e4⟩:=mP (p:=p) (c:=c) m (by omega) (by omega);have hs:Ev (fun k=>fO.f k p c core odd) (decide (n≤60)):=by
    simp only [fO.f,decide_eq_true_eq,hl,hlo,if_true];exact Ev.bind n1 (Ev.now _)
  by_cases hn:n≤60
  · refine ⟨decide (e=0),Ev.bind hs (Ev.yes (by simpa using hn) (Ev.bind e1 (Ev.now _))),fun he => ?_⟩
    have:=e4.1 (by simpa using he);exact ⟨this.2.fok,this.2,by omega,by omega,by have:=n2 (afk this.2.s);omega⟩
  · exact ⟨false,Ev.bind hs (Ev.no (by simpa using hn) (Ev.now _)),wrong⟩
end Go.Proofs.YtcomnjodjijcmaaGreat.Q
namespace Go.Proofs.YtcomnjodjijcmaaGreat.Q
set_option linter.unusedVariables false
set_option linter.unusedSimpArgs false
open Go.RowKit Go.Proofs.YtcomnjodjijcmaaGreatW.dB Go.Proofs.YtcomnjodjijcmaaGreatW.eO M R P
section
variable {p c:Int} {core:List (List Sp)} {odd:List Gn}
def mvT (l:List Sp):List Sp × Int:=if l.all (okM 0) then (l,0) else ([],20)
theorem uR (n:Int) (l:List Sp):mM n l=mvT (l.map (fK n)):=by
  unfold mM mvT;have:(l.map (fK n)).all (okM 0)=l.all (okM n):=by
    rw [List.all_map];congr 1;funext s;simp [okM,fK]
  rw [this]
theorem nS (i:Int):jW p c core odd i=if inR i then (if gT p c core odd i=[] then ([],0) else mvT (gT p c core odd i)) else ([],20):=by
  unfold jW gT;by_cases hr:inR i
  · rw [if_pos hr,if_pos hr]
    by_cases hz:fs c core odd i=[]
    · rw [if_pos hz,if_pos (by rw [hz];rfl)]
    · rw [if_neg hz,if_neg (by simpa using hz),uR]
  · rw [if_neg hr,if_neg hr]
theorem lZ {i:Int} (h:jA odd i=none):gT p c core odd i=gT p c core [] i:=by
  unfold gT fs fb;rw [h];simp [jA]
theorem pO {i:Int} {l:List Sp} (h:jA odd i=some l):gT p c core odd i=l:=by
  unfold gT fs fb;rw [h];exact jR l
theorem ny {p' c':Int} {gU:List (List Sp)} {kQ:List Gn} {i:Int} (h:gT p c core odd i=gT p' c' gU kQ i):jW p c core odd i=jW p' c' gU kQ i:=by
  rw [nS,nS,h]
theorem wS.afl (h:SF p c core odd) {r:P.S25} (s:wS p core odd r) (i:Int):jW r.f0 r.f1 r.f2 r.f3 i=jW p c core odd i:=by
  have ho:=s.o;have hup:r.f3.Pairwise (fun a b=>a.f0<b.f0):=by rw [ho];exact h.hup.filter _
  have bare:gT r.f0 r.f1 r.f2 [] i=gT p c core [] i:=s.c.ticks h i;cases hi:jA odd i with
  | none =>
    have hn:jA r.f3 i=none:=jF.2 (fun g hg e=>by
      rw [ho] at hg;exact jF.1 hi g (List.mem_filter.1 hg).1 e)
    exact ny (by rw [lZ hn,lZ hi,bare])
  | some l =>
    obtain ⟨g,g1,g2,g3⟩:=jT hi;cases hp:kH r.f0 r.f1 r.f2 g with
    | false =>
      have hg:g∈r.f3:=by rw [ho];exact List.mem_filter.2 ⟨g1,by simp [hp]⟩
      have:=mO hup hg;rw [g2,g3] at this;exact ny (by rw [pO this,pO hi])
    | true =>
      have hn:jA r.f3 i=none:=jF.2 (fun g' hg e=>by
        rw [ho] at hg;obtain ⟨m1,m2⟩:=List.mem_filter.1 hg;have e1:=mO h.hup m1;rw [e,hi] at e1;have e2:g'=g:=by
          cases g' with
          | mk a b =>
            cases g with
            | mk a' b' =>
              simp only at e g2 g3 e1;have:b=b':=by rw [g3];exact (Option.some.inj e1).symm
              rw [e,g2,this]
        rw [e2,hp] at m2;cases m2)
      have q:=pK.1 hp;rw [g2,g3] at q;have e1:jW r.f0 r.f1 r.f2 r.f3 i=(l,0):=by rw [ny (lZ hn)];exact q
      have hr:inR i:=by rw [← g2];exact h.hidx g g1
      have hS:SL (-1099511627776) 1099511627776 l:=by rw [← g3];exact h.hodd g g1
      have e2:jW p c core odd i=(l,0):=by
        rw [nS,if_pos hr,pO hi];by_cases z:l=[]
        · rw [if_pos z,z]
        · rw [if_neg z]
          have:=sV hS;rw [uR,jR] at this;exact this
      rw [e1,e2]
end
end Go.Proofs.YtcomnjodjijcmaaGreat.Q
namespace Go.Proofs.YtcomnjodjijcmaaGreat.Q
set_option linter.unusedVariables false
set_option linter.unusedSimpArgs false
open Go.RowKit Go.Proofs.YtcomnjodjijcmaaGreatW.dB Go.Proofs.YtcomnjodjijcmaaGreatW.eO M R P
section
variable {p c:Int} {core:List (List Sp)} {odd:List Gn}
theorem adJ {l m:List Sp} (h:mvT l=(m,0)):l=m:=by
  unfold mvT at h;split at h
  · exact (Prod.mk.inj h).1
  · have:=(Prod.mk.inj h).2;cases this
theorem wS.adK (h:SF p c core odd) {r:P.S25} (s:wS p core odd r) (i:Int):gT r.f0 r.f1 r.f2 r.f3 i=gT p c core odd i:=by
  by_cases hr:inR i
  · have e:=s.afl h i
    rw [nS,nS,if_pos hr,if_pos hr] at e;have ho:=s.o;have hup:r.f3.Pairwise (fun a b=>a.f0<b.f0):=by rw [ho];exact h.hup.filter _
    have bare:gT r.f0 r.f1 r.f2 [] i=gT p c core [] i:=s.c.ticks h i;cases hi:jA odd i with
    | none =>
      have hn:jA r.f3 i=none:=jF.2 (fun g hg e=>by
        rw [ho] at hg;exact jF.1 hi g (List.mem_filter.1 hg).1 e)
      rw [lZ hn,lZ hi,bare]
    | some l =>
      obtain ⟨g,g1,g2,g3⟩:=jT hi;have hS:SL (-1099511627776) 1099511627776 l:=by rw [← g3];exact h.hodd g g1
      have e2:(if gT p c core odd i=[] then (([],0):List Sp × Int) else mvT (gT p c core odd i))=(l,0):=by
        rw [pO hi];by_cases z:l=[]
        · rw [if_pos z,z]
        · rw [if_neg z]
          have:=sV hS;rw [uR,jR] at this;exact this
      rw [e2] at e;rw [pO hi];by_cases z:gT r.f0 r.f1 r.f2 r.f3 i=[]
      · rw [if_pos z] at e
        rw [z];exact (Prod.mk.inj e).1
      · rw [if_neg z] at e
        exact adJ e
  · have hno:∀ {o:List Gn},(∀ g∈o,g∈odd)→jA o i=none:=fun {o} ho=>jF.2 (fun g hg e=>hr (by rw [← e];exact h.hidx g (ho g hg)))
    rw [lZ (hno (fun g hg=>by rw [s.o] at hg;exact (List.mem_filter.1 hg).1)),lZ (hno (fun g hg=>hg))];exact s.c.ticks h i
theorem wS.sf (h:SF p c core odd) {r:P.S25} (s:wS p core odd r):SF r.f0 r.f1 r.f2 r.f3:=by
  obtain ⟨b,_⟩:=s.c.sf h;have hin:∀ g∈r.f3,g∈odd:=fun g hg=>by rw [s.o] at hg;exact (List.mem_filter.1 hg).1
  refine ⟨b.hc,b.hp0,b.hp1,b.hz,b.hcore,fun g hg=>h.hodd g (hin g hg),fun g hg=>h.hidx g (hin g hg),?_,b.hl,?_⟩
  · rw [s.o];exact h.hup.filter _
  · rw [s.o]
    have:=List.length_filter_le (fun g => !kH r.f0 r.f1 r.f2 g) odd;have:=h.hlo;omega
theorem l9 {i:Int}:fs c core odd i≠[]↔gT p c core odd i≠[]:=by simp [gT]
theorem adG.tf (h:SF p c core odd) (t:TF p core) {r:P.S25} (s:adG p core r):TF r.f0 r.f2:=by
  by_cases hb:∀ l∈core,l=[]
  · rw [s.e hb]
    exact ⟨List.Pairwise.nil,fun a ha=>by cases ha⟩
  · obtain ⟨s1,_⟩:=s.sf h
    obtain ⟨d,q,_,rfl⟩:=s.n hb;have hlen:0<core.length:=by
      cases core with
      | nil=>exact absurd (fun l hl=>by cases hl) hb
      | cons a t=>simp
    have hdl:d≤core.length:=Nat.le_of_dvd hlen q.d1;have hd0:=q.d0;refine ⟨List.Pairwise.sublist (List.take_sublist _ _) t.ta,fun a ha b hb' na nb => ?_⟩;obtain ⟨i,hi,rfl⟩:=List.getElem_of_mem ha;obtain ⟨j,hj,rfl⟩:=List.getElem_of_mem hb';simp only [List.length_take] at hi hj;simp only [List.getElem_take] at na nb ⊢;have hi2:i<core.length:=by omega
    have hj2:j<core.length:=by omega
    have Bi:=qg h 0 i hi2;have Bj:=qg h 0 j hj2;rw [Int.zero_mul,Int.zero_add,Int.zero_mul,jR] at Bi Bj;have aa:=uQ h hd0 hdl q.tn (j:Int);rw [Bj] at aa;have ni:fs c core [] (i:Int)≠[]:=(l9 (p:=p)).2 (by rw [oK,Bi];exact na);have nj:fs c core [] ((j:Int)+d)≠[]:=(l9 (p:=p)).2 (by rw [oK,aa];simpa using nb);have o:=adB (odd:=odd) h t (show (i:Int)<(j:Int)+d by omega) ni nj;have gi:=(lC (p:=p) ni).2.2;have gj:=(lC (p:=p) nj).2.1;rw [oK,Bi] at gi;rw [oK,aa,pF _ _ nb] at gj;omega
theorem wS.fok (h:FOK p c core odd) {r:P.S25} (s:wS p core odd r):FOK r.f0 r.f1 r.f2 r.f3:=by
  refine ⟨s.sf h.s,s.c.tf h.s h.t,fun i k hik ri rk ni nk => ?_⟩;have ei:=s.adK h.s i;have ek:=s.adK h.s k;have ni':fs c core odd i≠[]:=(l9 (p:=p)).2 (by rw [← ei];exact (l9 (p:=r.f0)).1 ni);have nk':fs c core odd k≠[]:=(l9 (p:=p)).2 (by rw [← ek];exact (l9 (p:=r.f0)).1 nk);have o:=h.ord i k hik ri rk ni' nk';have a1:=(lC (p:=p) ni').2.2;have a2:=(lC (p:=p) nk').2.1;have b1:=(lC (p:=r.f0) ni).2.2;have b2:=(lC (p:=r.f0) nk).2.1;rw [ei] at b1;rw [ek] at b2;omega
end
end Go.Proofs.YtcomnjodjijcmaaGreat.Q
