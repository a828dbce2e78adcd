/- Lemmas for laws of chapter 7: what the functions that they reach compute. No condition of its own. -/
import Derived.Test.YtcomnjodjijcmaaGreatYE18
import Derived.Test.YtcomnjodjijcmaaGreatYE17
namespace Go.Proofs.YtcomnjodjijcmaaGreat.Q
set_option linter.unusedVariables false
set_option linter.unusedSimpArgs false
open Go.RowKit Go.Proofs.YtcomnjodjijcmaaGreatW.dz Go.Proofs.YtcomnjodjijcmaaGreatW.eD M R P
variable [Inhabited WT]
variable {p c:Int} {core:List (List Sp)} {odd:List Gn}
theorem abp (h:SF p c core odd) (i:Int) (hi : -4611686018427387904≤i∧i≤4611686018427387904):Ev (fun k=>iG.f k p c core odd i) (oq p c core odd i):=by
  obtain ⟨r,r1,r2⟩:=tC h i;have hc0:=h.hc;have hl0:=h.hl;unfold iG.f;refine Ev.bind r1 ?_;by_cases hr:r.2=true
  · obtain ⟨hj,he⟩:=r2.is hr
    have hv:oq p c core odd i=(odd[r.1.toNat].f1,0,0):=by
      unfold oq;rw [← he,kR h.hup (List.getElem_mem hj)]
    rw [hv];have c1:=r2.low;have c2:r.1<(odd.length:Int):=by omega
    simp only [hr,c1,c2,if_true,ahJ odd _ hj];exact Ev.now _
  · have hr':r.2=false:=by simpa using hr
    have hno:=r2.no hr';simp only [hr',Bool.false_eq_true,if_false,decide_eq_true_eq];by_cases hc:c=0
    · have hv:oq p c core odd i=([],0,0):=by unfold oq;rw [hno];simp [hc]
      rw [hv];exact Ev.yes hc (Ev.now _)
    · have hv:oq p c core odd i=(fO c core i,yj (i / c) p):=by unfold oq;rw [hno];simp [hc]
      rw [hv];refine Ev.no hc (Ev.bind (o8 i c hi (by omega)) ?_);have h1:=Int.emod_nonneg i hc;have h2:=Int.emod_lt_of_pos i (show 0<c by omega);have hq:=abm (b:=c) hi (by omega);have hp0:=h.hp0;have hp1:=h.hp1;refine Ev.bind (yD (i / c) p (by omega) (by omega)) ?_;have h4:(i % c).toNat<core.length:=by omega
      have e2:fO c core i=core[(i % c).toNat]:=by unfold fO;rw [if_neg hc,List.getD_eq_getElem?_getD,List.getElem?_eq_getElem h4];rfl
      have h5:i % c<(core.length:Int):=by omega
      simp only [h1,h5,if_true,e2,ahK core _ h4];exact Ev.now _
theorem jK (h:SF p c core odd) (i:Int):Ev (fun k=>fU.f k p c core odd i) (jm p c core odd i):=by
  unfold fU.f jm;simp only [jE,Option.bind_some,Bool.not_eq_true',decide_eq_true_eq,decide_eq_false_iff_not];by_cases hi:inR i
  · have hi':=hi
    unfold inR at hi';simp only [hi,not_true,if_false,if_true];refine Ev.bind (abp h i (by omega)) ?_;have hk:=vD (p:=p) (c:=c) (core:=core) (odd:=odd) i;have aa:=h.sS i;by_cases hz:fs c core odd i=[]
    · rw [if_pos hz]
      exact Ev.yes (by rw [hk,hz];rfl) (Ev.now _)
    · rw [if_neg hz]
      have hlen:¬ ((fs c core odd i).length:Int)=0:=by
        intro e;exact hz (List.eq_nil_of_length_eq_zero (by omega))
      simp only [hk,hlen,if_false];have ab:=aa.ends hz;by_cases he:(oq p c core odd i).2.2=0
      · simp only [he,not_true,if_false]
        have hb:(oq p c core odd i).2.1=fb p c odd i ∧ -9223372036854775808≤fb p c odd i∧fb p c odd i≤9223372036854775807:=by
          unfold oq at he ⊢;unfold fb;cases ho:iW odd i with
          | some l=>simp
          | none =>
            simp only [ho] at he ⊢;by_cases hc:c=0
            · subst hc;simp
            · simp only [if_neg hc,yj] at he ⊢
              split at he
              · rename_i hm;simp only [if_pos hm];exact ⟨trivial,hm⟩
              · simp at he
        simp only [hb.1];exact Ev.bind (f:=fun _ a=>some (a.1,a.2)) (abj _ _ aa hb.2) (Ev.now _)
      · have hb:fb p c odd i < -9223372036854775808∨9223372036854775807<fb p c odd i:=by
          unfold oq at he;unfold fb;cases ho:iW odd i with
          | some l=>simp [ho] at he
          | none =>
            simp only [ho] at he ⊢;by_cases hc:c=0
            · simp [hc] at he
            · simp only [if_neg hc,yj] at he
              split at he
              · simp at he
              · omega
        have hm:lU (fb p c odd i) (fs c core odd i)=([],20):=by
          unfold lU;rw [if_neg];rw [aa.nL hz];omega
        rw [hm];exact Ev.yes he (Ev.now _)
  · simp only [hi,not_false_eq_true,if_true,if_false]
    exact Ev.now _
theorem tJ (h:SF p c core odd) (i:Int) (hi:inR i):Ev (fun k=>iR.f k p c core odd i) (decide (fs c core odd i≠[])):=by
  unfold inR at hi;unfold iR.f;refine Ev.bind (abp h i (by omega)) ?_;rw [vD];refine Ev.congr (f:=fun _=>some (decide (fs c core odd i≠[]))) (fun k => ?_) (Ev.now _);congr 1;cases fs c core odd i with
  | nil=>simp
  | cons s r=>simp
theorem abq (h:SF p c core odd):∃ b,Ev (fun k=>eB.f k p c core odd) b∧(b=true↔∀ l∈core,l=[]):=by
  have hl0:=h.hl;unfold eB.f;have key:∀ (rest pre:List (List Sp)),core=pre++rest→(∀ l∈pre,l=[])→∃ b,Ev (fun k=>eB.l0 (fun y=>some (!decide (y≥0))) (some true) core (core.length:Int) k (pre.length:Int)) b∧(b=true↔∀ l∈core,l=[]):=by
    intro rest;induction rest with
    | nil =>
      intro pre hp he;refine ⟨true,Ev.step (f:=fun _=>some true) (fun k => ?_) (Ev.now _),?_⟩
      · have c1:¬ (pre.length:Int)<(core.length:Int):=by rw [hp];simp
        simp only [eB.l0,eB.l0T,decide_eq_true_eq,c1,if_false]
      · simp only [List.append_nil] at hp
        subst hp;exact ⟨fun _=>he,fun _=>rfl⟩
    | cons l r ih =>
      intro pre hp he;have hlen:pre.length+1≤core.length:=by rw [hp];simp
      have hrd:gL core (pre.length:Int)=l:=by rw [hp];simp [gL]
      have c1:(pre.length:Int)<(core.length:Int):=by omega
      have c2:(0:Int)≤(pre.length:Int):=by omega
      have hw:=nx c1 c2 (by omega);by_cases hz:l=[]
      · obtain ⟨x,x1,x2⟩:=ih (pre++[l]) (by rw [hp];simp) (fun y hy=>by rcases List.mem_append.1 hy with hy | hy;exact he y hy;simp at hy;rw [hy];exact hz)
        refine ⟨x,Ev.step (fun k=>rfl) ?_,x2⟩;simp only [eB.l0,eB.l0T,decide_eq_true_eq,c1,c2,if_true,hrd,hw,gZ.f,hz,Option.bind_some];rw [len1 _ l];exact x1
      · refine ⟨false,Ev.step (f:=fun _=>some false) (fun k => ?_) (Ev.now _),?_⟩
        · have:((l.length:Int)>0):=by have:=List.length_pos_iff.2 hz;omega
          simp only [eB.l0,eB.l0T,decide_eq_true_eq,c1,c2,if_true,hrd,gZ.f,this,Option.bind_some];simp
        · constructor
          · intro e;cases e
          · intro e;exact absurd (e l (by rw [hp];simp)) hz
  exact key core [] rfl (by simp)
theorem zJ (h:SF p c core odd) (a:Int) (ha : -1099511627776≤a∧a≤1099511627777):∃ r,Ev (fun k=>dD.f k p c core odd a 1) r∧yt c core odd a r:=by
  have hlo:=h.hlo;obtain ⟨b,b1,b2⟩:=abq h;unfold dD.f;by_cases hb:b=true
  · have hbare:=b2.1 hb
    obtain ⟨r,r1,r2⟩:=tC h a;have key:∀ (d n:Nat),odd.length - n=d→n≤odd.length→(∀ j (hj:j<odd.length),j<n→odd[j].f0<a∨odd[j].f1=[])→(∀ j (hj:j<odd.length),n≤j→a≤odd[j].f0) →
        ∃ x,Ev (fun k=>dD.l1 (fun y=>some (y,true)) (some (0,false)) 1 odd k (n:Int)) x∧yt c core odd a x:=by
      intro d;induction d with
      | zero =>
        intro n hd hn h1 h2;have hnn:n=odd.length:=by omega
        refine ⟨(0,false),Ev.step (f:=fun _=>some (0,false)) (fun k => ?_) (Ev.now _),(fun e=>by cases e),fun _=>⟨rfl,fun m hm _ => ?_⟩⟩
        · have c1:¬ (n:Int)<(odd.length:Int):=by omega
          simp [dD.l1,dD.l1T,c1]
        · refine Classical.byContradiction fun hne => ?_
          obtain ⟨j,hj,e1,e2⟩:=sU h hbare hne;rcases h1 j hj (by omega) with g | g
          · omega
          · exact e2 g
      | succ d ih =>
        intro n hd hn h1 h2;have hlt:n<odd.length:=by omega
        have c0:(n:Int)≥0:=by omega
        have c1:(n:Int)<(odd.length:Int):=by omega
        have c2:(0:Int)≤(n:Int):=by omega
        by_cases hz:odd[n].f1=[]
        · obtain ⟨x,x1,x2⟩:=ih (n+1) (by omega) (by omega) (fun j hj hjn=>by
            rcases Nat.lt_or_ge j n with g | g
            · exact h1 j hj g
            · have:j=n:=by omega
              subst this;exact .inr hz) (fun j hj hjn=>h2 j hj (by omega))
          refine ⟨x,Ev.step (fun k=>rfl) ?_,x2⟩;have hw:wq ((n:Int)+1)=((n+1:Nat):Int):=by rw [iJ (by omega) (by omega)];simp
          simp only [dD.l1,dD.l1T,decide_eq_true_eq,c0,c1,c2,if_true,rdG odd n hlt,hz,hw];exact x1
        · refine ⟨(odd[n].f0,true),Ev.step (f:=fun _=>some (odd[n].f0,true)) (fun k => ?_) (Ev.now _),fun _=>⟨h2 n hlt (Nat.le_refl _),h.hidx _ (List.getElem_mem hlt),by rw [yw h hlt];exact hz,fun m hm1 hm2 => ?_⟩,(fun e=>by cases e)⟩
          · have c3:(odd[n].f1.length:Int)>0:=by have:=List.length_pos_iff.2 hz;omega
            simp only [dD.l1,dD.l1T,decide_eq_true_eq,c0,c1,c2,c3,if_true,rdG odd n hlt]
          · refine Classical.byContradiction fun hne => ?_
            obtain ⟨j,hj,e1,e2⟩:=sU h hbare hne;rcases Nat.lt_or_ge j n with g | g
            · rcases h1 j hj g with g2 | g2
              · omega
              · exact e2 g2
            · rcases Nat.lt_or_ge n j with g2 | g2
              · have:=wN h.hup hj g2;simp only at hm2;omega
              · have:j=n:=by omega
                subst this;simp only at hm2;omega
    have e1:(r.1.toNat:Int)=r.1:=Int.toNat_of_nonneg r2.low;have hhi:=r2.high;obtain ⟨x,x1,x2⟩:=key _ r.1.toNat rfl (by omega) (fun j hj hjn=>.inl (r2.below j hj (by omega))) (fun j hj hjn=>r2.above j hj (by omega));rw [e1] at x1;refine ⟨x,?_,x2⟩;refine Ev.bind b1 (Ev.yes hb (Ev.bind r1 (Ev.no (by simp) ?_)));exact x1
  · have key:∀ (d:Nat) (i:Int),(1099511627777 - i).toNat=d→a≤i→i≤1099511627777→(∀ m,a≤m→m<i→fs c core odd m=[])→∃ x,Ev (fun k=>dD.l2 (fun y=>some (y,true)) (some (0,false)) 1 p c core odd k i) x∧yt c core odd a x:=by
      intro d;induction d with
      | zero =>
        intro i hd h1 h2 h3;have hi:¬ inR i:=by unfold inR;omega
        refine ⟨(0,false),Ev.step (f:=fun _=>some (0,false)) (fun k => ?_) (Ev.now _),(fun e=>by cases e),fun _=>⟨rfl,fun m hm hr=>h3 m hm (by unfold inR at hr;omega)⟩⟩;simp [dD.l2,dD.l2T,jE,hi]
      | succ d ih =>
        intro i hd h1 h2 h3;have hi:inR i:=by unfold inR;omega
        by_cases hz:fs c core odd i=[]
        · obtain ⟨x,x1,x2⟩:=ih (i+1) (by omega) (by omega) (by omega) (fun m hm1 hm2=>by
            rcases Int.lt_or_le m i with g | g
            · exact h3 m hm1 g
            · have:m=i:=by omega
              subst this;exact hz)
          refine ⟨x,Ev.step (fun k=>rfl) ?_,x2⟩;simp only [dD.l2,dD.l2T,jE,hi,decide_true,Option.bind_some,if_true];refine Ev.bind (tJ h i hi) (Ev.no (by simp [hz]) ?_);rw [iJ (by omega) (by omega)];exact x1
        · refine ⟨(i,true),Ev.step (fun k=>rfl) ?_,fun _=>⟨h1,hi,hz,h3⟩,(fun e=>by cases e)⟩
          simp only [dD.l2,dD.l2T,jE,hi,decide_true,Option.bind_some,if_true];exact Ev.bind (tJ h i hi) (Ev.yes (by simp [hz]) (Ev.now _))
    obtain ⟨x,x1,x2⟩:=key _ a rfl (Int.le_refl _) ha.2 (fun m h1 h2=>by omega);exact ⟨x,Ev.bind b1 (Ev.no hb x1),x2⟩
theorem zK (h:SF p c core odd) (a:Int) (ha : -1099511627777≤a∧a≤1099511627776):∃ r,Ev (fun k=>dD.f k p c core odd a (-1)) r∧yu c core odd a r:=by
  have hlo:=h.hlo;obtain ⟨b,b1,b2⟩:=abq h;unfold dD.f;by_cases hb:b=true
  · have hbare:=b2.1 hb
    obtain ⟨r,r1,r2⟩:=tC h a;have key:∀ (n:Nat),n≤odd.length→(∀ j (hj:j<odd.length),n≤j→a<odd[j].f0∨odd[j].f1=[])→(∀ j (hj:j<odd.length),j<n→odd[j].f0≤a) →
        ∃ x,Ev (fun k=>dD.l1 (fun y=>some (y,true)) (some (0,false)) (-1) odd k ((n:Int) - 1)) x∧yu c core odd a x:=by
      intro n;induction n with
      | zero =>
        intro hn h1 h2;refine ⟨(0,false),Ev.step (f:=fun _=>some (0,false)) (fun k => ?_) (Ev.now _),(fun e=>by cases e),fun _=>⟨rfl,fun m hm _ => ?_⟩⟩
        · simp [dD.l1,dD.l1T]
        · refine Classical.byContradiction fun hne => ?_
          obtain ⟨j,hj,e1,e2⟩:=sU h hbare hne;rcases h1 j hj (by omega) with g | g
          · omega
          · exact e2 g
      | succ n ih =>
        intro hn h1 h2;have hlt:n<odd.length:=by omega
        have en:((n+1:Nat):Int) - 1=(n:Int):=by omega
        rw [en];have c0:(n:Int)≥0:=by omega
        have c1:(n:Int)<(odd.length:Int):=by omega
        have c2:(0:Int)≤(n:Int):=by omega
        by_cases hz:odd[n].f1=[]
        · obtain ⟨x,x1,x2⟩:=ih (by omega) (fun j hj hjn=>by
            rcases Nat.lt_or_ge n j with g | g
            · exact h1 j hj g
            · have:j=n:=by omega
              subst this;exact .inr hz) (fun j hj hjn=>h2 j hj (by omega))
          refine ⟨x,Ev.step (fun k=>rfl) ?_,x2⟩;have hw:wq ((n:Int) + -1)=(n:Int) - 1:=by rw [iJ (by omega) (by omega)];omega
          simp only [dD.l1,dD.l1T,decide_eq_true_eq,c0,c1,c2,if_true,rdG odd n hlt,hz,hw];exact x1
        · refine ⟨(odd[n].f0,true),Ev.step (f:=fun _=>some (odd[n].f0,true)) (fun k => ?_) (Ev.now _),fun _=>⟨h2 n hlt (by omega),h.hidx _ (List.getElem_mem hlt),by rw [yw h hlt];exact hz,fun m hm1 hm2 => ?_⟩,(fun e=>by cases e)⟩
          · have c3:(odd[n].f1.length:Int)>0:=by have:=List.length_pos_iff.2 hz;omega
            simp only [dD.l1,dD.l1T,decide_eq_true_eq,c0,c1,c2,c3,if_true,rdG odd n hlt]
          · refine Classical.byContradiction fun hne => ?_
            obtain ⟨j,hj,e1,e2⟩:=sU h hbare hne;rcases Nat.lt_or_ge n j with g | g
            · rcases h1 j hj g with g2 | g2
              · omega
              · exact e2 g2
            · rcases Nat.lt_or_ge j n with g2 | g2
              · have:=wN h.hup hlt g2;simp only at hm2;omega
              · have:j=n:=by omega
                subst this;simp only at hm2;omega
    have e1:(r.1.toNat:Int)=r.1:=Int.toNat_of_nonneg r2.low;have hhi:=r2.high;by_cases hr:r.2=true
    · obtain ⟨hj,he⟩:=r2.is hr
      obtain ⟨x,x1,x2⟩:=key (r.1.toNat+1) (by omega) (fun j hj2 hjn=>.inl (by have:=wN h.hup hj2 (show r.1.toNat<j by omega);omega)) (fun j hj2 hjn=>by
        rcases Nat.lt_or_ge j r.1.toNat with g | g
        · have:=wN h.hup hj g;omega
        · have:j=r.1.toNat:=by omega
          subst this;omega)
      have en:((r.1.toNat+1:Nat):Int) - 1=r.1:=by omega
      rw [en] at x1;exact ⟨x,Ev.bind b1 (Ev.yes hb (Ev.bind r1 (Ev.yes (by simp) (Ev.no (by simp [hr]) x1)))),x2⟩
    · have hr':r.2=false:=by simpa using hr
      have hno:=iT.1 (r2.no hr');obtain ⟨x,x1,x2⟩:=key r.1.toNat (by omega) (fun j hj2 hjn=>.inl (by have:=r2.above j hj2 (by omega);have:=hno _ (List.getElem_mem hj2);omega)) (fun j hj2 hjn=>by have:=r2.below j hj2 (by omega);omega);have en:((r.1.toNat:Nat):Int) - 1=wq (r.1 - 1):=by rw [iJ (by have:=r2.low;omega) (by omega)];omega
      rw [en] at x1;exact ⟨x,Ev.bind b1 (Ev.yes hb (Ev.bind r1 (Ev.yes (by simp) (Ev.yes (by simp [hr']) x1)))),x2⟩
  · have key:∀ (d:Nat) (i:Int),(i+1099511627777).toNat=d→i≤a → -1099511627777≤i→(∀ m,m≤a→i<m→fs c core odd m=[])→∃ x,Ev (fun k=>dD.l2 (fun y=>some (y,true)) (some (0,false)) (-1) p c core odd k i) x∧yu c core odd a x:=by
      intro d;induction d with
      | zero =>
        intro i hd h1 h2 h3;have hi:¬ inR i:=by unfold inR;omega
        refine ⟨(0,false),Ev.step (f:=fun _=>some (0,false)) (fun k => ?_) (Ev.now _),(fun e=>by cases e),fun _=>⟨rfl,fun m hm hr=>h3 m hm (by unfold inR at hr;omega)⟩⟩;simp [dD.l2,dD.l2T,jE,hi]
      | succ d ih =>
        intro i hd h1 h2 h3;have hi:inR i:=by unfold inR;omega
        by_cases hz:fs c core odd i=[]
        · obtain ⟨x,x1,x2⟩:=ih (i - 1) (by omega) (by omega) (by omega) (fun m hm1 hm2=>by
            rcases Int.lt_or_le i m with g | g
            · exact h3 m hm1 g
            · have:m=i:=by omega
              subst this;exact hz)
          refine ⟨x,Ev.step (fun k=>rfl) ?_,x2⟩;simp only [dD.l2,dD.l2T,jE,hi,decide_true,Option.bind_some,if_true];refine Ev.bind (tJ h i hi) (Ev.no (by simp [hz]) ?_);rw [iJ (by omega) (by omega)];exact x1
        · refine ⟨(i,true),Ev.step (fun k=>rfl) ?_,fun _=>⟨h1,hi,hz,h3⟩,(fun e=>by cases e)⟩
          simp only [dD.l2,dD.l2T,jE,hi,decide_true,Option.bind_some,if_true];exact Ev.bind (tJ h i hi) (Ev.yes (by simp [hz]) (Ev.now _))
    obtain ⟨x,x1,x2⟩:=key _ a rfl (Int.le_refl _) ha.1 (fun m h1 h2=>by omega);exact ⟨x,Ev.bind b1 (Ev.no hb x1),x2⟩
theorem abr (h:SF p c core odd) (i:Int) (hi : -9223372036854775808≤i∧i≤9223372036854775807):∃ r,Ev (fun k=>iw.f k p c core odd i) r∧yt c core odd (max (i+1) (-1099511627776)) r:=by
  simp only [iw.f,decide_eq_true_eq];by_cases hm:i≥1099511627776
  · exact ⟨(0,false),Ev.yes hm (Ev.now _),(fun e=>by cases e),fun _=>⟨rfl,fun m h1 h2=>by unfold inR at h2;omega⟩⟩
  · obtain ⟨r,r1,r2⟩:=zJ h (max (i+1) (-1099511627776)) (by omega)
    rw [iJ (n:=i+1) (by omega) (by omega),ag2];exact ⟨r,Ev.no hm (Ev.bind (f:=fun _ a=>some (a.1,a.2)) r1 (Ev.now _)),r2⟩
theorem abt (h:SF p c core odd) (i:Int) (hi : -9223372036854775808≤i∧i≤9223372036854775807):∃ r,Ev (fun k=>iq.f k p c core odd i) r∧yu c core odd (min (i - 1) 1099511627776) r:=by
  simp only [iq.f,decide_eq_true_eq];by_cases hm:i ≤ -1099511627776
  · exact ⟨(0,false),Ev.yes hm (Ev.now _),(fun e=>by cases e),fun _=>⟨rfl,fun m h1 h2=>by unfold inR at h2;omega⟩⟩
  · obtain ⟨r,r1,r2⟩:=zK h (min (i - 1) 1099511627776) (by omega)
    rw [iJ (n:=i - 1) (by omega) (by omega),ag1];exact ⟨r,Ev.no hm (Ev.bind (f:=fun _ a=>some (a.1,a.2)) r1 (Ev.now _)),r2⟩
end Go.Proofs.YtcomnjodjijcmaaGreat.Q
namespace Go.Proofs.YtcomnjodjijcmaaGreat.Q
set_option linter.unusedVariables false
set_option linter.unusedSimpArgs false
open Go.RowKit Go.Proofs.YtcomnjodjijcmaaGreatW.dz Go.Proofs.YtcomnjodjijcmaaGreatW.eD M R P
section
variable {p c:Int} {core:List (List Sp)} {odd:List Gn}
structure Bes (p c:Int) (core:List (List Sp)) (odd:List Gn) (i:Int):Prop where
  he:(jm p c core odd i).2=0
  up:∀ k,i<k→inR k→fs c core odd k≠[]→gap c core odd i k→(jm p c core odd k).2=0∧jc (jm p c core odd i).1 (jm p c core odd k).1=true
  dn:∀ k,k<i→inR k→fs c core odd k≠[]→gap c core odd k i→(jm p c core odd k).2=0∧jc (jm p c core odd k).1 (jm p c core odd i).1=true
  ov:∀ j k,j<i→i<k→inR j→inR k→fs c core odd j≠[]→fs c core odd k≠[]→gap c core odd j i→gap c core odd i k→jc (jm p c core odd j).1 (jm p c core odd k).1=true
def kS (core:List (List Sp)) (odd:List Gn):Int:=((core.map fun l=>(l.length:Int)).sum)+((odd.map fun g=>(g.f1.length:Int)).sum)
structure GR (p c:Int) (core:List (List Sp)) (odd:List Gn):Prop where
  s:SF p c core odd
  t:TF p core
  b:∀ g∈odd,Bes p c core odd g.f0
theorem afI (x:List Sp) (hx:x≠[]):0<x.length∧(gS x 0).f0=kJ x:=afH x hx
theorem jL (h:SF p c core odd) (j:Int):(jm p c core odd j).1.length≤4611686018427387904:=by
  have hs:=(h.sS j).vE;unfold jm;split
  · split
    · simp
    · unfold lU;split
      · simp;omega
      · simp
  · simp
theorem zL (l:List Sp):jc l []=true:=by unfold jc;cases l.getLast? <;> rfl
theorem qB {l:List Int} (h:∀ x∈l,0≤x):0≤l.sum:=by
  induction l with
  | nil=>simp
  | cons a r ih=>have:=h a (by simp);have:=ih (fun x hx=>h x (by simp [hx]));simp;omega
theorem GR.fok (h:GR p c core odd):FOK p c core odd:=FOK.of h.s h.t ⟨fun g hg hgn k hk rk nk gk=>by
    have hb:=h.b g hg;obtain ⟨b1,b2⟩:=hb.up k hk rk nk gk;obtain ⟨j,hj,rfl⟩:=List.getElem_of_mem hg;have hn0:fs c core odd odd[j].f0≠[]:=by rw [yw h.s hj];exact hgn
    have e1:=h.s.sW (h.s.hidx _ (List.getElem_mem hj)) hn0 hb.he;have e2:=h.s.sW rk nk b1;rw [h.s.ou e1,h.s.ou e2,qA] at b2;have g1:=kD (p:=p) hn0;have g2:=kD (p:=p) nk;have:=b2 g1.1 g2.1;rw [g1.2.2,g2.2.1] at this;exact this,fun g hg hgn k hk rk nk gk=>by
    have hb:=h.b g hg;obtain ⟨b1,b2⟩:=hb.dn k hk rk nk gk;obtain ⟨j,hj,rfl⟩:=List.getElem_of_mem hg;have hn0:fs c core odd odd[j].f0≠[]:=by rw [yw h.s hj];exact hgn
    have e1:=h.s.sW (h.s.hidx _ (List.getElem_mem hj)) hn0 hb.he;have e2:=h.s.sW rk nk b1;rw [h.s.ou e1,h.s.ou e2,qA] at b2;have g1:=kD (p:=p) hn0;have g2:=kD (p:=p) nk;have:=b2 g2.1 g1.1;rw [g2.2.2,g1.2.1] at this;exact this⟩
end
variable [Inhabited WT]
variable {p c:Int} {core:List (List Sp)} {odd:List Gn}
theorem ac1 (m:MF core odd) (hl:core.length≤6000) (hlo:odd.length≤6000):∃ b,Ev (fun k=>dB.f k p c core odd) b∧(b=true↔SF p c core odd):=by
  have k1:∀ (rest pre:List Gn),odd=pre++rest→pre.Pairwise (fun a b=>a.f0<b.f0) →
      ∃ b,Ev (fun k=>dB.l2 (some false) (some true) odd (odd.length:Int) odd k (pre.length:Int)) b∧(b=true↔(∀ g∈rest,SL (-1099511627776) 1099511627776 g.f1∧inR g.f0)∧odd.Pairwise (fun a b=>a.f0<b.f0)):=by
    intro rest;induction rest with
    | nil =>
      intro pre hp h2;refine ⟨true,Ev.step (f:=fun _=>some true) (fun k => ?_) (Ev.now _),?_⟩
      · have c1:¬ (pre.length:Int)<(odd.length:Int):=by rw [hp];simp
        simp only [dB.l2,dB.l2T,decide_eq_true_eq,c1,if_false]
      · rw [List.append_nil] at hp;subst hp;simp [h2]
    | cons g r ih =>
      intro pre hp h2;have hlen:pre.length+1≤odd.length:=by rw [hp];simp
      have hrd:gG odd (pre.length:Int)=g:=by rw [hp];simp [gG]
      have c1:(pre.length:Int)<(odd.length:Int):=by omega
      have c2:(0:Int)≤(pre.length:Int):=by omega
      have hw:=nx c1 c2 (by omega);have hr:=yx g.f1 (m.mo g (by rw [hp];simp));by_cases hs:slB (-1099511627776) g.f1=true
      · by_cases hi:inR g.f0
        · by_cases ho:∀ a∈pre,a.f0<g.f0
          · obtain ⟨b,b1,b2⟩:=ih (pre++[g]) (by rw [hp];simp) (List.pairwise_append.2 ⟨h2,by simp,fun a ha b hb=>by simp at hb;subst hb;exact ho a ha⟩)
            refine ⟨b,Ev.step (fun k=>rfl) ?_,b2.trans ⟨fun ⟨x,y⟩=>⟨fun a ha=>by rcases List.mem_cons.1 ha with rfl | ha;exact ⟨mU.1 hs,hi⟩;exact x a ha,y⟩,fun ⟨x,y⟩=>⟨fun a ha=>x a (List.mem_cons_of_mem _ ha),y⟩⟩⟩;simp only [dB.l2,dB.l2T,decide_eq_true_eq,c1,c2,if_true,hrd,hw];refine Ev.bind hr (Ev.no (by simp [hs]) ?_);simp only [jE,Option.bind_some];refine Ev.no (by simp [hi]) ?_;rw [len1 _ g];by_cases hz:(pre.length:Int)>0
            · have hw2:wq ((pre.length:Int) - 1)=((pre.length - 1:Nat):Int):=by rw [iJ (by omega) (by omega)];omega
              have hpl:pre.length - 1<pre.length:=by omega
              have aa:gG odd ((pre.length - 1:Nat):Int)=pre[pre.length - 1]:=by
                rw [rdG odd (pre.length - 1) (by omega)];simp only [hp];rw [List.getElem_append_left hpl]
              have:=ho _ (List.getElem_mem hpl);simp only [hw2,aa];exact Ev.yes hz (Ev.yes (by omega) (Ev.yes (by omega) (Ev.no (by omega) b1)))
            · exact Ev.no hz b1
          · have hz:0<pre.length:=by
              cases pre with
              | nil=>exact absurd (by simp) ho
              | cons a r=>simp
            have hpl:pre.length - 1<pre.length:=by omega
            have hbad:g.f0≤pre[pre.length - 1].f0:=by
              refine Classical.byContradiction fun hx=>ho fun a ha => ?_;obtain ⟨j,hj,rfl⟩:=List.getElem_of_mem ha;rcases Nat.lt_or_ge j (pre.length - 1) with q | q
              · have:=List.pairwise_iff_getElem.1 h2 j (pre.length - 1) hj hpl q;omega
              · have:j=pre.length - 1:=by omega
                subst this;omega
            refine ⟨false,Ev.step (fun k=>rfl) ?_,(fun e=>by cases e),fun ⟨x,y⟩=>(ho fun a ha => ?_).elim⟩
            · have hw2:wq ((pre.length:Int) - 1)=((pre.length - 1:Nat):Int):=by rw [iJ (by omega) (by omega)];omega
              have aa:gG odd ((pre.length - 1:Nat):Int)=pre[pre.length - 1]:=by
                rw [rdG odd (pre.length - 1) (by omega)];simp only [hp];rw [List.getElem_append_left hpl]
              simp only [dB.l2,dB.l2T,decide_eq_true_eq,c1,c2,if_true,hrd,hw];refine Ev.bind hr (Ev.no (by simp [hs]) ?_);simp only [jE,Option.bind_some,hw2,aa];exact Ev.no (by simp [hi]) (Ev.yes (by omega) (Ev.yes (by omega) (Ev.yes (by omega) (Ev.yes hbad (Ev.now _)))))
            · rw [hp] at y
              exact (List.pairwise_append.1 y).2.2 a ha g (by simp)
        · refine ⟨false,Ev.step (fun k=>rfl) ?_,(fun e=>by cases e),fun ⟨x,y⟩=>(hi (x g (by simp)).2).elim⟩
          simp only [dB.l2,dB.l2T,decide_eq_true_eq,c1,c2,if_true,hrd,hw];refine Ev.bind hr (Ev.no (by simp [hs]) ?_);simp only [jE,Option.bind_some];exact Ev.yes (by simp [hi]) (Ev.now _)
      · refine ⟨false,Ev.step (fun k=>rfl) ?_,(fun e=>by cases e),fun ⟨x,y⟩=>(hs (mU.2 (x g (by simp)).1)).elim⟩
        simp only [dB.l2,dB.l2T,decide_eq_true_eq,c1,c2,if_true,hrd,hw];exact Ev.bind hr (Ev.yes (by simp [hs]) (Ev.now _))
  have k0:∀ (rest pre:List (List Sp)),core=pre++rest→∀ (Y:Nat→Option Bool) (b:Bool),Ev Y b →
      Ev (fun k=>dB.l1 (some false) (Y k) core (core.length:Int) k (pre.length:Int)) (rest.all (slB (-1099511627776))&&b):=by
    intro rest;induction rest with
    | nil =>
      intro pre hp Y b hY;refine Ev.step (fun k=>rfl) ?_;have c1:¬ (pre.length:Int)<(core.length:Int):=by rw [hp];simp
      simp only [dB.l1,dB.l1T,decide_eq_true_eq,c1,if_false];exact Ev.shift hY
    | cons l r ih =>
      intro pre hp Y b hY;have hlen:pre.length+1≤core.length:=by rw [hp];simp
      have hrd:gL core (pre.length:Int)=l:=by rw [hp];simp [gL]
      have c1:(pre.length:Int)<(core.length:Int):=by omega
      have c2:(0:Int)≤(pre.length:Int):=by omega
      have hw:=nx c1 c2 (by omega);have hr:=yx l (m.mc l (by rw [hp];simp));refine Ev.step (fun k=>rfl) ?_;simp only [dB.l1,dB.l1T,decide_eq_true_eq,c1,c2,if_true,hrd,hw,List.all_cons];by_cases hs:slB (-1099511627776) l=true
      · rw [hs,Bool.true_and]
        have:=ih (pre++[l]) (by rw [hp];simp) (fun k=>Y (k+1)) b (Ev.shift hY);rw [← len1] at this;exact Ev.bind hr (Ev.no (by simp [hs]) this)
      · have hs':slB (-1099511627776) l=false:=by simpa using hs
        rw [hs',Bool.false_and,Bool.false_and];exact Ev.bind hr (Ev.yes (by simp [hs]) (Ev.now _))
  have wrong:∀ {P:Prop},false=true→P:=fun e=>by cases e
  unfold dB.f;by_cases hc:c=(core.length:Int)
  · by_cases hz:(decide (c=0)==decide (p=0))=true
    · have hz':decide (c=0)=decide (p=0):=by simpa using hz
      have hz2:c=0↔p=0:=by simpa using hz'
      by_cases hp0:p<0
      · exact ⟨false,Ev.no (by simp [hc]) (Ev.no (by simp [hz']) (Ev.yes (by simpa using hp0) (Ev.now _))),wrong,fun h=>absurd h.hp0 (by omega)⟩
      · by_cases hp1:p>1099511627776
        · exact ⟨false,Ev.no (by simp [hc]) (Ev.no (by simp [hz']) (Ev.no (by simpa using hp0) (Ev.yes (by simpa using hp1) (Ev.now _)))),wrong,fun h=>absurd h.hp1 (by omega)⟩
        · obtain ⟨b,b1,b2⟩:=k1 odd [] rfl List.Pairwise.nil
          have:=k0 core [] rfl _ b b1;refine ⟨_,Ev.no (by simp [hc]) (Ev.no (by simp [hz']) (Ev.no (by simpa using hp0) (Ev.no (by simpa using hp1) this))),?_⟩;rw [Bool.and_eq_true,List.all_eq_true,b2];exact ⟨fun ⟨x1,x2,x3⟩=>⟨hc,by omega,by omega,hz2,fun l hl=>mU.1 (x1 l hl),fun g hg=>(x2 g hg).1,fun g hg=>(x2 g hg).2,x3,hl,hlo⟩,fun h=>⟨fun l hl=>mU.2 (h.hcore l hl),fun g hg=>⟨h.hodd g hg,h.hidx g hg⟩,h.hup⟩⟩
    · refine ⟨false,Ev.no (by simp [hc]) (Ev.yes (by simpa using hz) (Ev.now _)),wrong,fun h=>(hz ?_).elim⟩
      simpa using h.hz
  · exact ⟨false,Ev.yes (by simpa using hc) (Ev.now _),wrong,fun h=>(hc h.hc).elim⟩
theorem afJ (x:List Sp) (hx:x≠[]) (hl:x.length≤4611686018427387903):wq ((x.length:Int) - 1)=(x.length:Int) - 1∧0≤(x.length:Int) - 1∧(gS x ((x.length:Int) - 1)).f1=kT x:=by
  have:=afG x hx hl;rw [yQ];exact this
theorem ac2 (h:SF p c core odd):∃ b,Ev (fun k=>dI.f k p c core odd) b∧(b=true↔TF p core):=by
  have hl:=h.hl;have hp0:=h.hp0;have hp1:=h.hp1;obtain ⟨ne,hne⟩:∃ ne,neL core=ne:=⟨_,rfl⟩;have hmem:∀ x∈ne,x∈core∧x≠[]:=fun x hx=>wO.1 (by rw [hne];exact hx);have hnl:ne.length≤6000:=by rw [← hne];exact Nat.le_trans (List.length_filter_le _ _) hl
  obtain ⟨g,hg⟩:∃ g:Nat→List Sp,g=fun j=>ne.getD j []:=⟨_,rfl⟩;have hgm:∀ j,j<ne.length→g j∈core∧g j≠[]:=fun j hj=>by
    rw [hg];simp only;rw [List.getD_eq_getElem?_getD,List.getElem?_eq_getElem hj];exact hmem _ (List.getElem_mem hj)
  have hgr:∀ j:Nat,gL ne (j:Int)=g j:=fun j=>by rw [hg];simp [gL]
  have hget:∀ j (hj2:j<ne.length),ne[j]=g j:=fun j hj2=>by rw [hg];simp only;rw [List.getD_eq_getElem?_getD,List.getElem?_eq_getElem hj2];rfl
  obtain ⟨Q,hQ⟩:∃ Q:Nat→Prop,Q=fun j=>kT (g j)<kJ (g ((j+1) % ne.length))+(if j+1=ne.length then p else 0):=⟨_,rfl⟩;have k1:∀ (d n:Nat),ne.length - n=d→n≤ne.length→(∀ j,j<n→Q j) →
      ∃ b,Ev (fun k=>dI.l1 (some false) (some true) ne ne (ne.length:Int) p k (n:Int)) b∧(b=true↔∀ j,j<ne.length→Q j):=by
    intro d;induction d with
    | zero =>
      intro n hd hn h1;refine ⟨true,Ev.step (f:=fun _=>some true) (fun k => ?_) (Ev.now _),fun _ j hj=>h1 j (by omega),fun _=>rfl⟩;have c1:¬ (n:Int)<(ne.length:Int):=by omega
      simp only [dI.l1,dI.l1T,decide_eq_true_eq,c1,if_false]
    | succ d ih =>
      intro n hd hn h1;have hlt:n<ne.length:=by omega
      obtain ⟨m,hm0⟩:∃ m,(n+1) % ne.length=m:=⟨_,rfl⟩;have hm:m<ne.length:=by rw [← hm0];exact Nat.mod_lt _ (by omega)
      have q1:(n:Int)<(ne.length:Int):=by clear hm0;omega
      have q2:(0:Int)≤(n:Int):=by clear hm0;omega
      have q3:¬ (ne.length:Int)=0:=by clear hm0;omega
      have q4:(0:Int)≤(m:Int):=by clear hm0;omega
      have q5:(m:Int)<(ne.length:Int):=by clear hm0;omega
      obtain ⟨x,hx0⟩:∃ x,g n=x:=⟨_,rfl⟩;obtain ⟨y,hy0⟩:∃ y,g m=y:=⟨_,rfl⟩;have hx:=hgm n hlt;have hy:=hgm m hm;rw [hx0] at hx;rw [hy0] at hy;have ah:=h.hcore _ hx.1;have ai:=h.hcore _ hy.1;have aj:=ai.ends hy.2;have main:∀ (X:Int),X=(if n+1=ne.length then p else 0)→0≤X→X≤p→∃ b,Ev (fun k=>if (kT x)≥(wq (kJ y+X)) then some false else dI.l1 (some false) (some true) ne ne (ne.length:Int) p k ((n+1:Nat):Int)) b∧(b=true↔∀ j,j<ne.length→Q j):=by
        intro X hX hX0 hX1;rw [iJ (n:=kJ y+X) (by omega) (by omega)];by_cases hb:kT x≥kJ y+X
        · refine ⟨false,Ev.yes hb (Ev.now _),(fun e=>by cases e),fun hq => ?_⟩
          have:=hq n hlt;simp only [hQ] at this;rw [hm0,hx0,hy0,← hX] at this;omega
        · obtain ⟨b,b1,b2⟩:=ih (n+1) (by omega) (by omega) (fun j hjn=>by
            rcases Nat.lt_or_ge j n with q | q
            · exact h1 j q
            · have:j=n:=by omega
              subst this;rw [hQ];simp only;rw [hm0,hx0,hy0,← hX];omega)
          exact ⟨b,Ev.no hb b1,b2⟩
      obtain ⟨l1,l2,l3⟩:=afJ _ hx.2 ah.vE;obtain ⟨f1,f2⟩:=afI _ hy.2;have e0:wq ((n:Int)+1)=((n+1:Nat):Int):=by clear l1 l2 l3 f2;rw [iJ (by omega) (by omega)];simp
      have e1:Int.tmod ((n+1:Nat):Int) (ne.length:Int)=(m:Int):=by
        have e2:(((n+1) % ne.length:Nat):Int)=((n+1:Nat):Int) % (ne.length:Int):=Int.natCast_emod _ _;rw [hm0] at e2;exact (Int.tmod_eq_emod_of_nonneg (Int.natCast_nonneg _)).trans e2.symm
      have r1:gL ne (n:Int)=x:=by rw [hgr,hx0]
      have r2:gL ne (m:Int)=y:=by rw [hgr,hy0]
      have q7:((x.length:Int) - 1)<(x.length:Int):=Int.sub_lt_self _ (by decide);have q8:(0:Int)<(y.length:Int):=Int.ofNat_lt.mpr f1;by_cases hlast:n+1=ne.length
      · have q6:((n+1:Nat):Int)=(ne.length:Int):=by rw [hlast]
        obtain ⟨b,b1,b2⟩:=main p (by rw [if_pos hlast]) hp0 (Int.le_refl _);refine ⟨b,Ev.step (fun k => ?_) b1,b2⟩;simp only [dI.l1,dI.l1T,decide_eq_true_eq];rw [if_pos q1,if_pos q2,if_pos q1,if_neg q3,e0,e1,if_pos q4,if_pos q5,if_pos q6,r1,r2,l1,if_pos l2,if_pos q7,if_pos q8,l3,f2]
      · obtain ⟨b,b1,b2⟩:=main 0 (by rw [if_neg hlast]) (Int.le_refl _) hp0
        refine ⟨b,Ev.step (fun k => ?_) b1,b2⟩;have q6:¬ ((n+1:Nat):Int)=(ne.length:Int):=fun e=>hlast (Int.ofNat.inj e);simp only [dI.l1,dI.l1T,decide_eq_true_eq];rw [if_pos q1,if_pos q2,if_pos q1,if_neg q3,e0,e1,if_pos q4,if_pos q5,if_neg q6,r1,r2,l1,if_pos l2,if_pos q7,if_pos q8,l3,f2]
  have fin:(∀ j,j<ne.length→Q j)↔TF p core:=by
    rw [hQ];simp only;constructor
    · intro hj
      have aa:∀ j,j<ne.length→kJ (g j)≤kT (g j):=fun j hj2=>((h.hcore _ (hgm j hj2).1).ends (hgm j hj2).2).2.1;have ab:∀ j,j+1<ne.length→kT (g j)<kJ (g (j+1)):=fun j hj1=>by
        have:=hj j (by omega);rw [Nat.mod_eq_of_lt hj1,if_neg (by omega)] at this;omega
      have ac:∀ (d i j:Nat),j<ne.length→j - i=d→i<j→kT (g i)<kJ (g j):=by
        intro d;induction d with
        | zero=>intro i j hj2 hd hij;omega
        | succ d ih =>
          intro i j hj2 hd hij;by_cases af:i+1=j
          · subst af;exact ab i hj2
          · have a1:=ab i (by omega)
            have a2:=ih (i+1) j hj2 (by omega) (by omega);have a3:=aa (i+1) (by omega);omega
      have hmono:∀ i j,j<ne.length→i≤j→kJ (g i)≤kJ (g j)∧kT (g i)≤kT (g j):=by
        intro i j hj2 hij;rcases Nat.lt_or_ge i j with q | q
        · have a1:=ac _ i j hj2 rfl q
          have a2:=aa i (by omega);have a3:=aa j hj2;omega
        · have:i=j:=by omega
          subst this;omega
      constructor
      · have hpw:ne.Pairwise (fun a b=>kT a<kJ b):=List.pairwise_iff_getElem.2 (fun i j hi hj2 hij=>by rw [hget i hi,hget j hj2];exact ac _ i j hj2 rfl hij)
        rw [← hne] at hpw;unfold neL at hpw;rw [List.pairwise_filter] at hpw;exact hpw.imp (fun hx ha hb=>hx (by simpa using ha) (by simpa using hb))
      · intro a ha b hb hna hnb
        obtain ⟨i,hi,rfl⟩:=List.getElem_of_mem (show a∈ne by rw [← hne];exact wO.2 ⟨ha,hna⟩);obtain ⟨j,hj2,rfl⟩:=List.getElem_of_mem (show b∈ne by rw [← hne];exact wO.2 ⟨hb,hnb⟩);rw [hget i hi,hget j hj2];have hz:=hj (ne.length - 1) (by omega);have e:(ne.length - 1+1) % ne.length=0:=by rw [Nat.sub_add_cancel (by omega)];exact Nat.mod_self _
        rw [e,if_pos (by omega)] at hz;have a1:=(hmono i (ne.length - 1) (by omega) (by omega)).2;have a2:=(hmono 0 j hj2 (by omega)).1;omega
    · intro t j hj
      have hpw:ne.Pairwise (fun a b=>kT a<kJ b):=by
        rw [← hne];unfold neL;rw [List.pairwise_filter];exact t.ta.imp (fun hx ha hb=>hx (by simpa using ha) (by simpa using hb))
      by_cases e:j+1=ne.length
      · rw [if_pos e]
        have e2:(j+1) % ne.length=0:=by rw [e];exact Nat.mod_self _
        rw [e2];exact t.tb _ (hgm j hj).1 _ (hgm 0 (by omega)).1 (hgm j hj).2 (hgm 0 (by omega)).2
      · rw [if_neg e,Nat.mod_eq_of_lt (by omega:j+1<ne.length)]
        have:=List.pairwise_iff_getElem.1 hpw j (j+1) hj (by omega) (by omega);rw [hget j hj,hget (j+1) (by omega)] at this;omega
  have k0:∀ (rest pre:List (List Sp)),core=pre++rest→∀ (Y:Nat→List (List Sp)→Option Bool) (b:Bool),Ev (fun k=>Y k ne) b→Ev (fun k=>dI.l0 (Y k) core (core.length:Int) k (neL pre) (pre.length:Int)) b:=by
    intro rest;induction rest with
    | nil =>
      intro pre hp Y b hY;rw [List.append_nil] at hp;refine Ev.step (fun k=>rfl) ?_;have c1:¬ (pre.length:Int)<(core.length:Int):=by rw [hp];omega
      simp only [dI.l0,dI.l0T,decide_eq_true_eq,c1,if_false];rw [← hp,hne];exact Ev.shift hY
    | cons l r ih =>
      intro pre hp Y b hY;have hlen:pre.length+1≤core.length:=by rw [hp];simp
      have hrd:gL core (pre.length:Int)=l:=by rw [hp];simp [gL]
      have c1:(pre.length:Int)<(core.length:Int):=by omega
      have c2:(0:Int)≤(pre.length:Int):=by omega
      have hw:=nx c1 c2 (by omega);have b1:=ih (pre++[l]) (by rw [hp];simp) (fun k=>Y (k+1)) b (Ev.shift hY);have hnp:(neL pre).length≤pre.length:=List.length_filter_le _ _;refine Ev.step (fun k=>rfl) ?_;simp only [dI.l0,dI.l0T,decide_eq_true_eq,c1,c2,if_true,hrd,hw];rw [ac0,← len1] at b1;by_cases hz:l=[]
      · rw [if_pos hz] at b1
        exact Ev.no (by rw [hz];simp) b1
      · rw [if_neg hz] at b1
        have:0<l.length:=List.length_pos_iff.2 hz;exact Ev.yes (by omega) (Ev.yes (by omega) b1)
  obtain ⟨b,b1,b2⟩:=k1 _ 0 rfl (by omega) (fun j hj=>by omega);exact ⟨b,k0 core [] rfl (fun k y=>dI.l1 (some false) (some true) y y (y.length:Int) p k 0) b b1,b2.trans fin⟩
theorem abu (h:SF p c core odd) (i:Int) (hi:inR i):∃ b,Ev (fun k=>iy.f k p c core odd i) b∧(b=true↔Bes p c core odd i):=by
  have hi':=hi;unfold inR at hi';obtain ⟨lo,lo1,lo2⟩:=abt h i (by omega);obtain ⟨up,aa,ah⟩:=abr h i (by omega);have hah:∀ k j m,eH.f k (jm p c core odd j).1 m=some (jc (jm p c core odd j).1 m):=fun k j m=>abl _ _ _ (jL h j);have ai:∀ k (m:List Sp),eH.f k ([]:List Sp) m=some true:=fun k m=>by rw [abl _ _ _ (by simp)];simp [jc]
  have aj:=zL;have hup:up.2=true→∀ k,i<k→inR k→fs c core odd k≠[]→gap c core odd i k→k=up.1:=by
    intro e k h1 h2 h3 h4;obtain ⟨a1,a2,a3,a4⟩:=ah.1 e;unfold inR at h2 a2;rcases Int.lt_trichotomy k up.1 with g | g | g
    · exact absurd (a4 k (by omega) g) h3
    · exact g
    · exact absurd (h4 up.1 (by omega) g) a3
  have af:up.2=false→∀ k,i<k→inR k→fs c core odd k≠[]→False:=by
    intro e k h1 h2 h3;obtain ⟨_,a4⟩:=ah.2 e;have h2':=h2;unfold inR at h2';exact h3 (a4 k (by omega) h2)
  have ak:up.2=true→i<up.1∧inR up.1∧fs c core odd up.1≠[]∧gap c core odd i up.1:=fun e=>by
    obtain ⟨a1,a2,a3,a4⟩:=ah.1 e;exact ⟨by omega,a2,a3,fun m h1 h2=>a4 m (by unfold inR at a2;omega) h2⟩
  have hdn:lo.2=true→∀ k,k<i→inR k→fs c core odd k≠[]→gap c core odd k i→k=lo.1:=by
    intro e k h1 h2 h3 h4;obtain ⟨a1,a2,a3,a4⟩:=lo2.1 e;unfold inR at h2 a2;rcases Int.lt_trichotomy k lo.1 with g | g | g
    · exact absurd (h4 lo.1 g (by omega)) a3
    · exact g
    · exact absurd (a4 k (by omega) g) h3
  have ab:lo.2=false→∀ k,k<i→inR k→fs c core odd k≠[]→False:=by
    intro e k h1 h2 h3;obtain ⟨_,a4⟩:=lo2.2 e;have h2':=h2;unfold inR at h2';exact h3 (a4 k (by omega) h2)
  have am:lo.2=true→lo.1<i∧inR lo.1∧fs c core odd lo.1≠[]∧gap c core odd lo.1 i:=fun e=>by
    obtain ⟨a1,a2,a3,a4⟩:=lo2.1 e;exact ⟨by omega,a2,a3,fun m h1 h2=>a4 m (by unfold inR at a2;omega) h1⟩
  have wrong:∀ {P:Prop},false=true→P:=fun e=>by cases e
  simp only [iy.f,Bool.not_eq_true',decide_eq_false_iff_not];by_cases h0:(jm p c core odd i).2=0
  case neg=>exact ⟨false,Ev.bind (jK h i) (Ev.yes h0 (Ev.now _)),wrong,fun b=>(h0 b.he).elim⟩
  by_cases hlo:lo.2=true
  · obtain ⟨n1,n2,n3,n4⟩:=am hlo
    by_cases h1:(jm p c core odd lo.1).2=0
    case neg=>exact ⟨false,Ev.bind (jK h i) (Ev.no (fun q=>q h0) (Ev.bind lo1 (Ev.bind aa (Ev.yes hlo (Ev.bind (jK h lo.1) (Ev.yes h1 (Ev.now _))))))),wrong,fun b=>(h1 (b.dn _ n1 n2 n3 n4).1).elim⟩
    by_cases hu:up.2=true
    · obtain ⟨m1,m2,m3,m4⟩:=ak hu
      by_cases h2:(jm p c core odd up.1).2=0
      case neg=>exact ⟨false,Ev.bind (jK h i) (Ev.no (fun q=>q h0) (Ev.bind lo1 (Ev.bind aa (Ev.yes hlo (Ev.bind (jK h lo.1) (Ev.no (fun q=>q h1) (Ev.yes hu (Ev.bind (jK h up.1) (Ev.yes h2 (Ev.now _))))))))))
        , wrong,fun b=>(h2 (b.up _ m1 m2 m3 m4).1).elim⟩
      refine ⟨jc (jm p c core odd lo.1).1 (jm p c core odd i).1&&(jc (jm p c core odd i).1 (jm p c core odd up.1).1&&jc (jm p c core odd lo.1).1 (jm p c core odd up.1).1),Ev.bind (jK h i) (Ev.no (fun q=>q h0) (Ev.bind lo1 (Ev.bind aa (Ev.yes hlo (Ev.bind (jK h lo.1) (Ev.no (fun q=>q h1) (Ev.yes hu (Ev.bind (jK h up.1) (Ev.no (fun q=>q h2) ?_))))))))),?_⟩
      · simp only [hah,Option.bind_some]
        cases jc (jm p c core odd lo.1).1 (jm p c core odd i).1 <;> cases jc (jm p c core odd i).1 (jm p c core odd up.1).1 <;> simp <;> exact Ev.now _
      · simp only [Bool.and_eq_true]
        exact ⟨fun ⟨e1,e2,e3⟩=>⟨h0,fun k a b c' d=>by have:=hup hu k a b c' d;subst this;exact ⟨h2,e2⟩,fun k a b c' d=>by have:=hdn hlo k a b c' d;subst this;exact ⟨h1,e1⟩,fun j k a b c' d e f g q=>by have:=hup hu k b d f q;subst this;have:=hdn hlo j a c' e g;subst this;exact e3⟩,
          fun b=>⟨(b.dn _ n1 n2 n3 n4).2,(b.up _ m1 m2 m3 m4).2,b.ov _ _ n1 m1 n2 m2 n3 m3 n4 m4⟩⟩
    · refine ⟨jc (jm p c core odd lo.1).1 (jm p c core odd i).1,Ev.bind (jK h i) (Ev.no (fun q=>q h0) (Ev.bind lo1 (Ev.bind aa (Ev.yes hlo (Ev.bind (jK h lo.1) (Ev.no (fun q=>q h1) (Ev.no hu ?_))))))),?_⟩
      · simp only [hah,aj,Option.bind_some]
        cases jc (jm p c core odd lo.1).1 (jm p c core odd i).1 <;> exact Ev.now _
      · have hu':up.2=false:=by simpa using hu
        exact ⟨fun e1=>⟨h0,fun k a b c' d=>(af hu' k a b c').elim,fun k a b c' d=>by have:=hdn hlo k a b c' d;subst this;exact ⟨h1,e1⟩,fun j k a b c' d e f g q=>(af hu' k b d f).elim⟩,fun b=>(b.dn _ n1 n2 n3 n4).2⟩
  · have ac:lo.2=false:=by simpa using hlo
    by_cases hu:up.2=true
    · obtain ⟨m1,m2,m3,m4⟩:=ak hu
      by_cases h2:(jm p c core odd up.1).2=0
      case neg=>exact ⟨false,Ev.bind (jK h i) (Ev.no (fun q=>q h0) (Ev.bind lo1 (Ev.bind aa (Ev.no hlo (Ev.yes hu (Ev.bind (jK h up.1) (Ev.yes h2 (Ev.now _)))))))),wrong,fun b=>(h2 (b.up _ m1 m2 m3 m4).1).elim⟩
      refine ⟨jc (jm p c core odd i).1 (jm p c core odd up.1).1,Ev.bind (jK h i) (Ev.no (fun q=>q h0) (Ev.bind lo1 (Ev.bind aa (Ev.no hlo (Ev.yes hu (Ev.bind (jK h up.1) (Ev.no (fun q=>q h2) ?_))))))),?_⟩
      · simp only [hah,ai,Option.bind_some]
        cases jc (jm p c core odd i).1 (jm p c core odd up.1).1 <;> exact Ev.now _
      · exact ⟨fun e2=>⟨h0,fun k a b c' d=>by have:=hup hu k a b c' d;subst this;exact ⟨h2,e2⟩,fun k a b c' d=>(ab ac k a b c').elim,fun j k a b c' d e f g q=>(ab ac j a c' e).elim⟩,fun b=>(b.up _ m1 m2 m3 m4).2⟩
    · have hu':up.2=false:=by simpa using hu
      refine ⟨true,Ev.bind (jK h i) (Ev.no (fun q=>q h0) (Ev.bind lo1 (Ev.bind aa (Ev.no hlo (Ev.no hu ?_))))),fun _=>⟨h0,fun k a b c' d=>(af hu' k a b c').elim,fun k a b c' d=>(ab ac k a b c').elim,fun j k a b c' d e f g q=>(ab ac j a c' e).elim⟩,fun _=>rfl⟩;simp only [hah,ai,aj,Option.bind_some];exact Ev.now _
theorem aeF (hl:core.length≤6000) (hlo:odd.length≤6000):∃ n,Ev (fun k=>dP.f k p c core odd) n∧(kS core odd≤9223372036854775807→n=kS core odd):=by
  have k1:∀ (rest pre:List Gn),odd=pre++rest→∀ x:Int,∃ n,Ev (fun k=>dP.l1 (fun y=>some y) odd (odd.length:Int) k x (pre.length:Int)) n∧(0≤x→x+(rest.map fun g=>(g.f1.length:Int)).sum≤9223372036854775807→n=x+(rest.map fun g=>(g.f1.length:Int)).sum):=by
    intro rest;induction rest with
    | nil =>
      intro pre hp x;have c1:¬ (pre.length:Int)<(odd.length:Int):=by rw [hp];simp
      exact ⟨x,Ev.step (f:=fun _=>some x) (fun k=>by simp only [dP.l1,dP.l1T,decide_eq_true_eq,c1,if_false]) (Ev.now _),fun _ _=>by simp⟩
    | cons g r ih =>
      intro pre hp x;have hlen:pre.length+1≤odd.length:=by rw [hp];simp
      have hrd:gG odd (pre.length:Int)=g:=by rw [hp];simp [gG]
      have c1:(pre.length:Int)<(odd.length:Int):=by omega
      have c2:(0:Int)≤(pre.length:Int):=by omega
      have hw:=nx c1 c2 (by omega);obtain ⟨n,n1,n2⟩:=ih (pre++[g]) (by rw [hp];simp) (wq (x+(g.f1.length:Int)));rw [← len1] at n1;refine ⟨n,Ev.step (fun k=>rfl) ?_,fun h0 h1 => ?_⟩
      · simp only [dP.l1,dP.l1T,decide_eq_true_eq,c1,c2,if_true,hrd,hw]
        exact n1
      · have h2:0≤(r.map fun g=>(g.f1.length:Int)).sum:=qB (fun x hx=>by obtain ⟨a,_,rfl⟩:=List.mem_map.1 hx;omega)
        rw [List.map_cons,List.sum_cons] at h1 ⊢;rw [iJ (by omega) (by omega)] at n2;rw [n2 (by omega) (by omega)];omega
  have k0:∀ (rest pre:List (List Sp)),core=pre++rest→∀ (Y:Nat→Int→Option Int) (x:Int),(∀ x,∃ n,Ev (fun k=>Y k x) n∧(0≤x→x+(odd.map fun g=>(g.f1.length:Int)).sum≤9223372036854775807→n=x+(odd.map fun g=>(g.f1.length:Int)).sum)) →
      ∃ n,Ev (fun k=>dP.l0 (Y k) core (core.length:Int) k x (pre.length:Int)) n∧(0≤x→x+(rest.map fun l=>(l.length:Int)).sum+(odd.map fun g=>(g.f1.length:Int)).sum≤9223372036854775807→n=x+(rest.map fun l=>(l.length:Int)).sum+(odd.map fun g=>(g.f1.length:Int)).sum):=by
    intro rest;induction rest with
    | nil =>
      intro pre hp Y x hY;obtain ⟨n,n1,n2⟩:=hY x;have c1:¬ (pre.length:Int)<(core.length:Int):=by rw [hp];simp
      refine ⟨n,Ev.step (fun k=>rfl) ?_,fun h0 h1=>by simp at h1 ⊢;exact n2 h0 h1⟩;simp only [dP.l0,dP.l0T,decide_eq_true_eq,c1,if_false];exact Ev.shift n1
    | cons l r ih =>
      intro pre hp Y x hY;have hlen:pre.length+1≤core.length:=by rw [hp];simp
      have hrd:gL core (pre.length:Int)=l:=by rw [hp];simp [gL]
      have c1:(pre.length:Int)<(core.length:Int):=by omega
      have c2:(0:Int)≤(pre.length:Int):=by omega
      have hw:=nx c1 c2 (by omega);obtain ⟨n,n1,n2⟩:=ih (pre++[l]) (by rw [hp];simp) (fun k=>Y (k+1)) (wq (x+(l.length:Int))) (fun x=>let ⟨n,a,b⟩:=hY x;⟨n,Ev.shift a,b⟩);rw [← len1] at n1;refine ⟨n,Ev.step (fun k=>rfl) ?_,fun h0 h1 => ?_⟩
      · simp only [dP.l0,dP.l0T,decide_eq_true_eq,c1,c2,if_true,hrd,hw]
        exact n1
      · have h2:0≤(r.map fun l=>(l.length:Int)).sum:=qB (fun x hx=>by obtain ⟨a,_,rfl⟩:=List.mem_map.1 hx;omega)
        have h3:0≤(odd.map fun g=>(g.f1.length:Int)).sum:=qB (fun x hx=>by obtain ⟨a,_,rfl⟩:=List.mem_map.1 hx;omega);rw [List.map_cons,List.sum_cons] at h1 ⊢;rw [iJ (by omega) (by omega)] at n2;rw [n2 (by omega) (by omega)];omega
  obtain ⟨n,n1,n2⟩:=k0 core [] rfl (fun k y=>dP.l1 (fun y=>some y) odd (odd.length:Int) k y 0) 0 (fun x=>k1 odd [] rfl x);refine ⟨n,n1,fun h => ?_⟩;unfold kS at h ⊢;rw [n2 (by omega) (by omega)];omega
theorem nM (m:MF core odd) (hl:core.length≤6000) (hlo:odd.length≤6000):∃ n,(Ev (fun k=>dP.f k p c core odd) n∧(kS core odd≤9223372036854775807→n=kS core odd))∧∃ e,Ev (fun k=>dH.f k p c core odd) e∧(e=0∨e=3∨e=50)∧(e=3↔n>60000)∧(e=0↔n≤60000∧GR p c core odd):=by
  obtain ⟨n,n1,n2⟩:=aeF (p:=p) (c:=c) hl hlo;refine ⟨n,⟨n1,n2⟩,?_⟩;obtain ⟨sh,ab,ac⟩:=ac1 (p:=p) (c:=c) m hl hlo;have z1:¬ decide ((core.length:Int)>6000)=true:=by simp;omega
  have z2:¬ decide ((odd.length:Int)>6000)=true:=by simp;omega
  simp only [dH.f,dH.l0];by_cases hn:n>60000
  · exact ⟨3,Ev.no z1 (Ev.no z2 (Ev.bind n1 (Ev.yes (by simpa using hn) (Ev.now _)))),.inr (.inl rfl),⟨fun _=>hn,fun _=>rfl⟩,⟨fun e=>by omega,fun ⟨e,_⟩=>by omega⟩⟩
  have z3:¬ decide (n>60000)=true:=by simpa using hn
  have bad:∀ {q:Prop},¬ q→(50:Int)=0∨(50:Int)=3∨(50:Int)=50∧True→((50:Int)=0∨(50:Int)=3∨(50:Int)=50)∧((50:Int)=3↔n>60000)∧((50:Int)=0↔n≤60000∧q):=fun hq _=>⟨.inr (.inr rfl),⟨fun e=>by omega,fun e=>by omega⟩,⟨fun e=>by omega,fun ⟨_,e⟩=>(hq e).elim⟩⟩;by_cases hs:sh=true
  case neg=>exact ⟨50,Ev.no z1 (Ev.no z2 (Ev.bind n1 (Ev.no z3 (Ev.bind ab (Ev.yes (by simpa using hs) (Ev.now _)))))),bad (fun q=>hs (ac.2 q.s)) (.inr (.inr ⟨rfl,trivial⟩))⟩
  have aa:=ac.1 hs;obtain ⟨tu,af,ah⟩:=ac2 aa;by_cases ht:tu=true
  case neg=>exact ⟨50,Ev.no z1 (Ev.no z2 (Ev.bind n1 (Ev.no z3 (Ev.bind ab (Ev.no (by simp [hs]) (Ev.bind af (Ev.yes (by simpa using ht) (Ev.now _)))))))),bad (fun q=>ht (ah.2 q.t)) (.inr (.inr ⟨rfl,trivial⟩))⟩
  have ai:=ah.1 ht;have loop:∀ (rest pre:List Gn),odd=pre++rest→∃ e:Int,Ev (fun k=>dH.l1 (some (50:Int)) (some (0:Int)) odd (odd.length:Int) p c core odd k (pre.length:Int)) e∧(e=0∨e=50)∧(e=0↔∀ g∈rest,Bes p c core odd g.f0):=by
    intro rest;induction rest with
    | nil =>
      intro pre hp;have c1:¬ (pre.length:Int)<(odd.length:Int):=by rw [hp];simp
      exact ⟨0,Ev.step (f:=fun _=>some 0) (fun k=>by simp only [dH.l1,dH.l1T,decide_eq_true_eq,c1,if_false]) (Ev.now _),.inl rfl,by simp⟩
    | cons g r ih =>
      intro pre hp;have hlen:pre.length+1≤odd.length:=by rw [hp];simp
      have hrd:gG odd (pre.length:Int)=g:=by rw [hp];simp [gG]
      have c1:(pre.length:Int)<(odd.length:Int):=by omega
      have c2:(0:Int)≤(pre.length:Int):=by omega
      have hw:=nx c1 c2 (by omega);obtain ⟨b,b1,b2⟩:=abu aa g.f0 (aa.hidx _ (by rw [hp];simp));by_cases hb:b=true
      · obtain ⟨e,e1,e2,e3⟩:=ih (pre++[g]) (by rw [hp];simp)
        rw [← len1] at e1;refine ⟨e,Ev.step (fun k=>rfl) ?_,e2,by simp [e3,b2.1 hb]⟩;simp only [dH.l1,dH.l1T,decide_eq_true_eq,c1,c2,if_true,hrd,hw];exact Ev.bind b1 (Ev.no (by simp [hb]) e1)
      · refine ⟨50,Ev.step (fun k=>rfl) ?_,.inr rfl,(fun e=>by omega),fun q=>(hb (b2.2 (q g (by simp)))).elim⟩
        simp only [dH.l1,dH.l1T,decide_eq_true_eq,c1,c2,if_true,hrd,hw];exact Ev.bind b1 (Ev.yes (by simpa using hb) (Ev.now _))
  obtain ⟨e,e1,e2,e3⟩:=loop odd [] rfl;refine ⟨e,Ev.no z1 (Ev.no z2 (Ev.bind n1 (Ev.no z3 (Ev.bind ab (Ev.no (by simp [hs]) (Ev.bind af (Ev.no (by simp [ht]) e1))))))),by omega,⟨fun q=>by omega,fun q=>by omega⟩,fun q=>⟨by omega,aa,ai,e3.1 q⟩,fun q=>e3.2 q.2.b⟩
end Go.Proofs.YtcomnjodjijcmaaGreat.Q
namespace Go.Proofs.YtcomnjodjijcmaaGreat.Q
set_option linter.unusedVariables false
set_option linter.unusedSimpArgs false
open Go.RowKit Go.Proofs.YtcomnjodjijcmaaGreatW.dz Go.Proofs.YtcomnjodjijcmaaGreatW.eD M R P
section
theorem ajl (pre r:List Int) (s:Int):gI (pre++s :: r) (pre.length:Int)=s:=by simp [gI]
theorem ai9 (k:Nat) (kind:Int) (x y:Bool):agU.f k kind x y=some (kindOf kind x y):=by
  unfold agU.f kindOf;by_cases h1:kind=1
  · simp only [h1,decide_true,if_true];cases x <;> cases y <;> rfl
  · simp only [h1,decide_false,if_false]
    by_cases h2:kind=2
    · simp only [h2,decide_true,if_true];cases x <;> cases y <;> rfl
    · simp only [h2,decide_false,if_false];cases x <;> cases y <;> rfl
theorem aiT:@aes.l1=@aes.l0:=by kernel_rfl
end
variable [Inhabited WT]
theorem ahC (l:List Sp) (x:Int) (hl:l.length≤9223372036854775807):Ev (fun k=>agB.f k l x) (vL l x):=by
  have key:∀ (rest pre:List Sp),l=pre++rest→Ev (fun k=>agB.l0 (some true) (some false) l x k (pre.length:Int)) (vL rest x):=by
    intro rest;induction rest with
    | nil =>
      intro pre hp;have c1:¬ (pre.length:Int)<(l.length:Int):=by rw [hp];simp
      refine Ev.step (fun k=>rfl) ?_;simp only [agB.l0,agB.l0T,decide_eq_true_eq,c1,if_false];exact Ev.now _
    | cons s r ih =>
      intro pre hp;have hlen:pre.length+1≤l.length:=by rw [hp];simp
      have hrd:gS l (pre.length:Int)=s:=by rw [hp];exact rdS _ _ _
      have c1:(pre.length:Int)<(l.length:Int):=by omega
      have c2:(0:Int)≤(pre.length:Int):=by omega
      have hw:=nx c1 c2 hl;have hi:=ih (pre++[s]) (by rw [hp];simp);rw [← len1] at hi;refine Ev.step (fun k=>rfl) ?_;simp only [agB.l0,agB.l0T,decide_eq_true_eq,c1,c2,hrd,hw,if_true];by_cases t0:s.f0≤x
      · refine Ev.yes t0 ?_
        by_cases t1:x≤s.f1
        · have:vL (s :: r) x=true:=by rw [kQ];simp [t0,t1]
          rw [this];exact Ev.yes t1 (Ev.now _)
        · have:vL (s :: r) x=vL r x:=by rw [kQ];simp [t1]
          rw [this];exact Ev.no t1 hi
      · have:vL (s :: r) x=vL r x:=by rw [kQ];simp [t0]
        rw [this];exact Ev.no t0 hi
  exact key l [] rfl
theorem ahD (l:List Int) (x:Int) (hl:l.length≤1000000000):Ev (fun k=>afA.f k l x) (ins l x):=by
  have done:∀ (rest pre out:List Int),l=pre++rest→out.length+rest.length≤1000000001→Ev (fun k=>afA.l0 (fun y1 y2=>(if (!y2)=true then (if y1.length+1≤17592186044416 then (some (y1++[x])) else none) else (some y1))) l x k out true (pre.length:Int)) (out++rest):=by
    intro rest;induction rest with
    | nil =>
      intro pre out hp hb;rw [List.append_nil];have c1:¬ (pre.length:Int)<(l.length:Int):=by rw [hp];simp
      refine Ev.step (fun k=>rfl) ?_;simp only [afA.l0,afA.l0T,decide_eq_true_eq,c1,if_false];exact Ev.now _
    | cons y r ih =>
      intro pre out hp hb;have hlen:pre.length+1≤l.length:=by rw [hp];simp
      have hrd:gI l (pre.length:Int)=y:=by rw [hp];exact ajl _ _ _
      have c1:(pre.length:Int)<(l.length:Int):=by omega
      have c2:(0:Int)≤(pre.length:Int):=by omega
      have hw:=nx c1 c2 (by omega);have c3:out.length+1≤17592186044416:=by simp at hb;omega
      have hi:=ih (pre++[y]) (out++[y]) (by rw [hp];simp) (by simp at hb ⊢;omega);rw [List.append_assoc,List.singleton_append,← len1] at hi;refine Ev.step (fun k=>rfl) ?_;simp only [afA.l0,afA.l0T,decide_eq_true_eq,c1,c2,c3,hrd,hw,if_true];by_cases e:y=x
      · exact Ev.yes e hi
      · exact Ev.no e (Ev.no (by simp) hi)
  have key:∀ (rest pre out:List Int),l=pre++rest→out.length+rest.length≤1000000000→Ev (fun k=>afA.l0 (fun y1 y2=>(if (!y2)=true then (if y1.length+1≤17592186044416 then (some (y1++[x])) else none) else (some y1))) l x k out false (pre.length:Int)) (out++ins rest x):=by
    intro rest;induction rest with
    | nil =>
      intro pre out hp hb;have c1:¬ (pre.length:Int)<(l.length:Int):=by rw [hp];simp
      have c3:out.length+1≤17592186044416:=by simp at hb;omega
      refine Ev.step (fun k=>rfl) ?_;simp only [afA.l0,afA.l0T,decide_eq_true_eq,c1,c3,if_false,if_true];exact Ev.now _
    | cons y r ih =>
      intro pre out hp hb;have hlen:pre.length+1≤l.length:=by rw [hp];simp
      have hrd:gI l (pre.length:Int)=y:=by rw [hp];exact ajl _ _ _
      have c1:(pre.length:Int)<(l.length:Int):=by omega
      have c2:(0:Int)≤(pre.length:Int):=by omega
      have hw:=nx c1 c2 (by omega);have c3:out.length+1≤17592186044416:=by simp at hb;omega
      have c4:(out++[x]).length+1≤17592186044416:=by simp at hb ⊢;omega
      have hp2:l=(pre++[y])++r:=by rw [hp];simp
      refine Ev.step (fun k=>rfl) ?_;simp only [afA.l0,afA.l0T,decide_eq_true_eq,c1,c2,c3,c4,hrd,hw,if_true];simp only [ins];by_cases e:y=x
      · rw [if_pos e]
        have hi:=done r (pre++[y]) (out++[y]) hp2 (by simp at hb ⊢;omega);rw [List.append_assoc,List.singleton_append,← len1] at hi;exact Ev.yes e hi
      · rw [if_neg e]
        refine Ev.no e (Ev.yes (by simp) ?_);by_cases e2:y>x
        · rw [if_pos e2]
          have hi:=done r (pre++[y]) (out++[x]++[y]) hp2 (by simp at hb ⊢;omega);have ea:out++[x]++[y]++r=out++x :: y :: r:=by simp
          rw [ea,← len1] at hi;exact Ev.yes e2 hi
        · rw [if_neg e2]
          have hi:=ih (pre++[y]) (out++[y]) hp2 (by simp at hb ⊢;omega);rw [List.append_assoc,List.singleton_append,← len1] at hi;exact Ev.no e2 hi
  exact key l [] [] rfl (by simpa using hl)
def aiC (l:List Sp):Prop:=∀ s∈l,-4611686018427387904≤s.f1∧s.f1≤4611686018427387904
theorem ahE {β:Type} (a:List Sp) (ha:aiC a) (hl:a.length≤100000000) {r:β}:∀ (rest pre:List Sp) (p:List Int) (Y:Nat→List Int→Option β),a=pre++rest→p.length+2*rest.length≤900000000→Ev (fun k=>Y k (plc rest p)) r→Ev (fun k=>aes.l0 (Y k) a k p (pre.length:Int)) r:=by
  intro rest;induction rest with
  | nil =>
    intro pre p Y hp hn hY;have c1:¬ (pre.length:Int)<(a.length:Int):=by rw [hp];simp
    refine Ev.step (fun k=>rfl) ?_;simp only [aes.l0,aes.l0T,decide_eq_true_eq,c1,if_false];exact Ev.shift hY
  | cons s r ih =>
    intro pre p Y hp hn hY;have hlen:pre.length+1≤a.length:=by rw [hp];simp
    have hrd:gS a (pre.length:Int)=s:=by rw [hp];exact rdS _ _ _
    have c1:(pre.length:Int)<(a.length:Int):=by omega
    have c2:(0:Int)≤(pre.length:Int):=by omega
    have hw:=nx c1 c2 (by omega);have hs:=ha s (by rw [hp];simp);have hw2:wq (s.f1+1)=s.f1+1:=iJ (by omega) (by omega);have l1:=ahz p s.f0;have l2:=ahz (ins p s.f0) (s.f1+1);simp only [List.length_cons] at hn;have hi:=ih (pre++[s]) (ins (ins p s.f0) (s.f1+1)) (fun k=>Y (k+1)) (by rw [hp];simp) (by omega) (Ev.shift hY);rw [← len1] at hi;refine Ev.step (fun k=>rfl) ?_;simp only [aes.l0,aes.l0T,decide_eq_true_eq,c1,c2,hrd,hw,hw2,if_true];exact Ev.bind (ahD p s.f0 (by omega)) (Ev.bind (ahD _ _ (by omega)) hi)
theorem aii (a b:List Sp) (ha:aiC a) (hb:aiC b) (hl:a.length+b.length≤100000000):Ev (fun k=>aes.f k a b) (plc b (plc a [])):=by
  unfold aes.f;simp only [aiT];have:=ais a [];simp at this;exact ahE a ha (by omega) a [] [] _ rfl (by simp;omega) (ahE b hb (by omega) b [] _ (fun _ y=>some y) rfl (by omega) (Ev.now _))
theorem aiv (kind:Int) (a b:List Sp) (ha:a.length≤100000000) (hb:b.length≤100000000) (p:List Int) (hp:p.length≤900000000) (hr:∀ z∈p,-4611686018427387904≤z∧z≤4611686018427387905) :
    ∀ (rest pre:List Int) (out:List Sp),p=pre++rest→out.length≤pre.length→Ev (fun k=>agD.l0 (fun y=>some y) kind a b p k out (pre.length:Int)) (ahB (fun x=>kindOf kind (vL a x) (vL b x)) out rest):=by
  intro rest;induction rest with
  | nil =>
    intro pre out h hn;have hpl:pre.length=p.length:=by rw [h];simp
    have hw:wq ((pre.length:Int)+1)=(pre.length:Int)+1:=iJ (by omega) (by omega);have c1:¬ (pre.length:Int)+1<(p.length:Int):=by omega
    refine Ev.step (fun k=>rfl) ?_;simp only [agD.l0,agD.l0T,decide_eq_true_eq,hw,c1,if_false];exact Ev.now _
  | cons x r ih =>
    intro pre out h hn;have hlen:pre.length+1≤p.length:=by rw [h];simp
    have hw:wq ((pre.length:Int)+1)=(pre.length:Int)+1:=iJ (by omega) (by omega);cases r with
    | nil =>
      have c1:¬ (pre.length:Int)+1<(p.length:Int):=by rw [h];simp
      refine Ev.step (fun k=>rfl) ?_;simp only [agD.l0,agD.l0T,decide_eq_true_eq,hw,c1,if_false];exact Ev.now _
    | cons y r =>
      have c0:(pre.length:Int)+1<(p.length:Int):=by rw [h];simp;omega
      have c1:(pre.length:Int)<(p.length:Int):=by omega
      have c2:(0:Int)≤(pre.length:Int):=by omega
      have c20:(0:Int)≤(pre.length:Int)+1:=by omega
      have hrx:gI p (pre.length:Int)=x:=by rw [h];exact ajl _ _ _
      have aa:gI p ((pre.length:Int)+1)=y:=by rw [h,show pre++x :: y :: r=(pre++[x])++y :: r by simp,len1 pre x];exact ajl _ _ _
      have bx:=hr x (by rw [h];simp);have ab:=hr y (by rw [h];simp);have wx:wq (x - 1)=x - 1:=iJ (by omega) (by omega);have wy:wq (y - 1)=y - 1:=iJ (by omega) (by omega);have h2:p=(pre++[x])++y :: r:=by rw [h];simp
      have c3:out.length+1≤8796093022208:=by omega
      refine Ev.step (fun k=>rfl) ?_;simp only [agD.l0,agD.l0T,decide_eq_true_eq,hw,c0,c1,c2,c20,c3,hrx,aa,wx,wy,if_true,ai9,Option.bind_some];refine Ev.bind (ahC a x (by omega)) (Ev.bind (ahC b x (by omega)) ?_);simp only [ahB];by_cases hk:kindOf kind (vL a x) (vL b x)=true
      · simp only [hk,if_true]
        refine Ev.no (by simp) ?_;have hj:(join out x y).length≤out.length+1:=by
          rcases List.eq_nil_or_concat out with rfl | ⟨o,z,rfl⟩
          · simp [join_nil]
          · rw [List.concat_eq_append,ahA];split <;> simp
        have hi:=ih (pre++[x]) (join out x y) h2 (by simp;omega);rw [← len1] at hi;rcases List.eq_nil_or_concat out with rfl | ⟨o,z,rfl⟩
        · rw [join_nil] at hi
          exact Ev.no (by simp) hi
        · rw [List.concat_eq_append] at *
          have ql:((o++[z]).length:Int)=(o.length:Int)+1:=by simp
          have q1:wq (((o++[z]).length:Int) - 1)=(o.length:Int):=by
            simp only [List.length_append,List.length_singleton] at c3;rw [ql,iJ (by omega) (by omega)];omega
          have q2:gS (o++[z]) (o.length:Int)=z:=rdS _ _ _;have q3:(0:Int)≤(o.length:Int):=by omega
          have q4:(o.length:Int)<((o++[z]).length:Int):=by rw [ql];omega
          have q5:((o++[z]).length:Int)>0:=by rw [ql];omega
          simp only [q1,q2,q3,q4,q5,if_true];rw [ahA] at hi ⊢;by_cases e:z.f1=x - 1
          · rw [if_pos e] at hi ⊢
            refine Ev.yes e ?_;have:(o++[z]).set (Int.toNat (o.length:Int)) (⟨z.f0,y - 1⟩:Sp)=o++[⟨z.f0,y - 1⟩]:=by simp
            rw [this];exact hi
          · rw [if_neg e] at hi ⊢
            exact Ev.no e hi
      · have hi:=ih (pre++[x]) out h2 (by simp;omega)
        rw [← len1] at hi;rw [Bool.not_eq_true] at hk;simp only [hk,Bool.not_false,Bool.false_eq_true,if_true,if_false];exact hi
theorem aij (kind:Int) (lo hi:Int) (hlo : -4611686018427387904≤lo) (hh:hi≤4611686018427387904) (a b:List Sp) (ha:∀ s∈a,lo≤s.f0∧s.f0≤s.f1∧s.f1≤hi) (hb:∀ s∈b,lo≤s.f0∧s.f0≤s.f1∧s.f1≤hi) (hl:a.length+b.length≤100000000) :
    ∃ r,Ev (fun k=>agD.f k kind a b) r∧SL lo hi r∧∀ x,vL r x=kindOf kind (vL a x) (vL b x):=by
  have hy:kindOf kind false false=false:=by unfold kindOf;split <;> simp
  obtain ⟨h1,h2⟩:=aiu (kindOf kind) hy ha hb;refine ⟨_,?_,h1,h2⟩;have hpl:=ais b (plc a []);have aa:=ais a [];simp at aa;have hr:∀ z∈plc b (plc a []),-4611686018427387904≤z∧z≤4611686018427387905:=by
    intro z hz;rw [ah8,ah8] at hz;rcases hz with (hz | ⟨s,hs,h⟩) | ⟨s,hs,h⟩
    · simp at hz
    · have:=ha s hs;rcases h with rfl | rfl <;> omega
    · have:=hb s hs;rcases h with rfl | rfl <;> omega
  exact Ev.bind (aii a b (fun s hs=>by have:=ha s hs;omega) (fun s hs=>by have:=hb s hs;omega) hl) (aiv kind a b (by omega) (by omega) _ (by omega) hr _ [] [] rfl (by simp))
theorem ah5 (l:List Sp) (n:Int) (hs:SL (-1099511627776) 1099511627776 l) (hn : -9223372036854775808≤n∧n≤9223372036854775807):Ev (fun k=>agy.f k l n) (lU n l):=by
  have hl:=SL.len (lo:=0) hs;have key:∀ (rest pre:List Sp),l=pre++rest→pre.all (okM n)=true→Ev (fun k=>agy.l0 (fun y1=>some ([],20)) (fun y2=>some (y2,0)) l n k (pre.map (eO n)) (pre.length:Int)) (lU n l):=by
    intro rest;induction rest with
    | nil =>
      intro pre hp hok;have e:l=pre:=by rw [hp];simp
      have c1:¬ (pre.length:Int)<(l.length:Int):=by rw [hp];simp
      refine Ev.step (fun k=>rfl) ?_;simp only [agy.l0,agy.l0T,decide_eq_true_eq,c1,if_false];rw [e];unfold lU;rw [if_pos hok];exact Ev.now _
    | cons s r ih =>
      intro pre hp hok;have hlen:pre.length+1≤l.length:=by rw [hp];simp
      have hrd:gS l (pre.length:Int)=s:=by rw [hp];exact rdS _ _ _
      have c1:(pre.length:Int)<(l.length:Int):=by omega
      have c2:(0:Int)≤(pre.length:Int):=by omega
      have hw:=nx c1 c2 (by omega);have c3:(pre.map (eO n)).length+1≤8796093022208:=by rw [List.length_map];omega
      have ht:=SL.ticks hs (s:=s) (by rw [hp];simp);have w1:wq (1099511627776 - s.f1)=1099511627776 - s.f1:=iJ (by omega) (by omega);have w2:wq ((-1099511627776) - s.f0) = -1099511627776 - s.f0:=iJ (by omega) (by omega);have bad:okM n s=false→lU n l=([],20):=fun h=>by
        unfold lU;rw [if_neg (by rw [hp,List.all_append,List.all_cons,h];simp)]
      refine Ev.step (fun k=>rfl) ?_;simp only [agy.l0,agy.l0T,decide_eq_true_eq,c1,c2,c3,hrd,hw,w1,w2,if_true];by_cases g1:n>1099511627776 - s.f1
      · rw [bad (by rw [Bool.eq_false_iff];intro e;have:=qy.1 e;omega)]
        exact Ev.yes g1 (Ev.now _)
      · refine Ev.no g1 ?_
        by_cases g2:n < -1099511627776 - s.f0
        · rw [bad (by rw [Bool.eq_false_iff];intro e;have:=qy.1 e;omega)]
          exact Ev.yes g2 (Ev.now _)
        · refine Ev.no g2 ?_
          have hi:=ih (pre++[s]) (by rw [hp];simp) (by
            have:okM n s=true:=qy.2 (by omega);rw [List.all_append,hok];simp [this])
          rw [List.map_append,← len1] at hi;rw [iJ (n:=s.f0+n) (by omega) (by omega),iJ (n:=s.f1+n) (by omega) (by omega)];exact hi
  exact key l [] rfl rfl
end Go.Proofs.YtcomnjodjijcmaaGreat.Q
namespace Go.Proofs.YtcomnjodjijcmaaGreat.Q
set_option linter.unusedVariables false
set_option linter.unusedSimpArgs false
open Go.RowKit Go.Proofs.YtcomnjodjijcmaaGreatW.dz Go.Proofs.YtcomnjodjijcmaaGreatW.eD M R P
section
variable {p c:Int} {core:List (List Sp)} {odd:List Gn}
theorem pig (d:Int) (hd:d≠0):∀ (n:Nat) (l:List Gn) (x:Int),l.length≤n→∃ j:Nat,j≤n∧∀ g∈l,g.f0≠x+(j:Int)*d:=by
  intro n;induction n with
  | zero =>
    intro l x hl;have:l=[]:=List.eq_nil_of_length_eq_zero (by omega);subst this;exact ⟨0,Nat.le_refl _,fun g hg=>by cases hg⟩
  | succ n ih =>
    intro l x hl;by_cases h:∃ g∈l,g.f0=x
    · have hlt:(l.filter fun g=>decide (g.f0≠x)).length<l.length:=by
        refine List.length_filter_lt_length_iff_exists.2 ?_;obtain ⟨g,g1,g2⟩:=h;exact ⟨g,g1,by simp [g2]⟩
      obtain ⟨j,j1,j2⟩:=ih (l.filter fun g=>decide (g.f0≠x)) (x+d) (by omega);refine ⟨j+1,by omega,fun g hg e => ?_⟩;have e0:((j+1:Nat):Int)*d=(j:Int)*d+d:=by rw [Int.natCast_add,Int.add_mul];simp
      by_cases q:g.f0=x
      · have:((j+1:Nat):Int)*d≠0:=Int.mul_ne_zero (by omega) hd
        omega
      · exact j2 g (List.mem_filter.2 ⟨hg,by simp [q]⟩) (by omega)
    · exact ⟨0,by omega,fun g hg e=>h ⟨g,hg,by simpa using e⟩⟩
structure Fnd (s:Int) (T:Int→Prop) (b:Bool) (a:Int):Prop where
  y:b=true→T a∧∀ m,T m→0≤(m - a)*s
  n:b=false→a=0∧∀ m,¬ T m
theorem Fnd.to {s:Int} {T U:Int→Prop} {b:Bool} {a:Int} (h:Fnd s T b a) (e:∀ m,T m↔U m):Fnd s U b a:=⟨fun q=>⟨(e a).1 (h.y q).1,fun m hm=>(h.y q).2 m ((e m).2 hm)⟩,fun q=>⟨(h.n q).1,fun m hm=>(h.n q).2 m ((e m).2 hm)⟩⟩
theorem Fnd.put {s:Int} {T:Int→Prop} {a:Int} (h:Fnd s T false a) (x:Int):Fnd s (fun m=>T m∨m=x) true x:=⟨fun _=>⟨Or.inr rfl,fun m hm=>by
  rcases hm with hm | rfl
  · exact absurd hm ((h.n rfl).2 m)
  · simp⟩,fun q=>by cases q⟩
theorem Fnd.less {s:Int} (hs:s=1∨s = -1) {T:Int→Prop} {a x:Int} (h:Fnd s T true a) (hl:(x - a)*s<0):Fnd s (fun m=>T m∨m=x) true x:=⟨fun _=>⟨Or.inr rfl,fun m hm=>by
  rcases hm with hm | rfl
  · have:=(h.y rfl).2 m hm
    rcases hs with rfl | rfl <;> omega
  · simp⟩,fun q=>by cases q⟩
theorem Fnd.keep {s:Int} {T:Int→Prop} {a x:Int} (h:Fnd s T true a) (hl:¬ (x - a)*s<0):Fnd s (fun m=>T m∨m=x) true a:=⟨fun _=>⟨Or.inl (h.y rfl).1,fun m hm=>by
  rcases hm with hm | rfl
  · exact (h.y rfl).2 m hm
  · omega⟩,fun q=>by cases q⟩
def T1 (odd:List Gn) (i s:Int) (n:Nat) (m:Int):Prop:=∃ j:Nat,∃ hj:j<odd.length,j<n∧odd[j].f0=m∧odd[j].f1≠[]∧0≤(m - i)*s
def T2 (c:Int) (core:List (List Sp)) (odd:List Gn) (i s:Int) (n:Nat) (m:Int):Prop:=T1 odd i s odd.length m∨∃ q:Nat,q<n∧m=i+(q:Int)*s∧fs c core odd m≠[]
theorem aiP {i s:Int} {n:Nat} (hn:n<odd.length) (h1:odd[n].f1≠[]) (h2:0≤(odd[n].f0 - i)*s) (m:Int):(T1 odd i s n m∨m=odd[n].f0)↔T1 odd i s (n+1) m:=by
  constructor
  · rintro (⟨j,hj,a,b⟩ | rfl)
    · exact ⟨j,hj,by omega,b⟩
    · exact ⟨n,hn,by omega,rfl,h1,h2⟩
  · rintro ⟨j,hj,a,b,d⟩
    rcases Nat.lt_or_ge j n with g | g
    · exact Or.inl ⟨j,hj,g,b,d⟩
    · have:j=n:=by omega
      subst this;exact Or.inr b.symm
theorem ajq {i s:Int} {n:Nat} (hn:n<odd.length) (h:¬ (odd[n].f1≠[]∧0≤(odd[n].f0 - i)*s)) (m:Int):T1 odd i s n m↔T1 odd i s (n+1) m:=by
  constructor
  · rintro ⟨j,hj,a,b⟩
    exact ⟨j,hj,by omega,b⟩
  · rintro ⟨j,hj,a,b,d1,d2⟩
    rcases Nat.lt_or_ge j n with g | g
    · exact ⟨j,hj,g,b,d1,d2⟩
    · have:j=n:=by omega
      subst this;subst b;exact absurd ⟨d1,d2⟩ h
theorem aiQ {i s:Int} {n:Nat} (h1:fs c core odd (i+(n:Int)*s)≠[]) (m:Int):(T2 c core odd i s n m∨m=i+(n:Int)*s)↔T2 c core odd i s (n+1) m:=by
  constructor
  · rintro ((a | ⟨j,a,b⟩) | rfl)
    · exact Or.inl a
    · exact Or.inr ⟨j,by omega,b⟩
    · exact Or.inr ⟨n,by omega,rfl,h1⟩
  · rintro (a | ⟨j,a,b,d⟩)
    · exact Or.inl (Or.inl a)
    · rcases Nat.lt_or_ge j n with g | g
      · exact Or.inl (Or.inr ⟨j,g,b,d⟩)
      · have:j=n:=by omega
        subst this;exact Or.inr b
theorem akl {i s:Int} {n:Nat} (h:fs c core odd (i+(n:Int)*s)=[]) (m:Int):T2 c core odd i s n m↔T2 c core odd i s (n+1) m:=by
  constructor
  · rintro (a | ⟨j,a,b⟩)
    · exact Or.inl a
    · exact Or.inr ⟨j,by omega,b⟩
  · rintro (a | ⟨j,a,b,d⟩)
    · exact Or.inl a
    · rcases Nat.lt_or_ge j n with g | g
      · exact Or.inr ⟨j,g,b,d⟩
      · have:j=n:=by omega
        subst this;subst b;exact absurd h d
theorem ai0 (h:SF p c core odd) {i s:Int} (hs:s=1∨s = -1) (hi:inR i) {K:Nat} (hK:(K:Int)=c*((odd.length:Int)+1)+2∨¬ inR (i+(K:Int)*s)) {m:Int} (hm:inR m) (h0:0≤(m - i)*s) (hn:fs c core odd m≠[]):∃ x,T2 c core odd i s K x∧0≤(m - x)*s:=by
  cases ho:iW odd m with
  | some l =>
    obtain ⟨g,g1,g2,g3⟩:=je ho;obtain ⟨j,hj,rfl⟩:=List.getElem_of_mem g1;refine ⟨m,Or.inl ⟨j,hj,hj,g2,?_,h0⟩,by simp⟩;have:fs c core odd m=l:=by unfold fs;rw [ho]
    rw [g3,← this];exact hn
  | none =>
    have hf:fs c core odd m=fO c core m:=by unfold fs;rw [ho]
    rw [hf] at hn;obtain ⟨c0,_⟩:=sZ h hn;obtain ⟨q,hq⟩:∃ q:Nat,(q:Int)=(m - i)*s:=⟨((m - i)*s).toNat,by omega⟩;have aa:m=i+(q:Int)*s:=by rcases hs with rfl | rfl <;> omega
    rcases Nat.lt_or_ge q K with g | g
    · exact ⟨m,Or.inr ⟨q,g,aa,by rw [hf];exact hn⟩,by simp⟩
    · have hK':(K:Int)=c*((odd.length:Int)+1)+2:=by
        rcases hK with e | e
        · exact e
        · exfalso
          apply e
          unfold inR at hi hm ⊢;rcases hs with rfl | rfl <;> omega
      obtain ⟨cn,rfl⟩:∃ n:Nat,c=(n:Int):=⟨c.toNat,by omega⟩;have hr:q % cn<cn:=Nat.mod_lt _ (by omega);obtain ⟨j,j1,j2⟩:=pig ((cn:Int)*s) (by rcases hs with rfl | rfl <;> omega) odd.length odd (i+((q % cn:Nat):Int)*s) (Nat.le_refl _);have e0:i+((q % cn:Nat):Int)*s+(j:Int)*((cn:Int)*s)=i+((q % cn+j*cn:Nat):Int)*s:=by
        rw [Int.natCast_add,Int.natCast_mul,Int.add_mul,Int.mul_assoc,Int.add_assoc]
      have hjc:j*cn≤odd.length*cn:=Nat.mul_le_mul_right _ j1;have hKn:K=cn*(odd.length+1)+2:=by
        have:(K:Int)=((cn*(odd.length+1)+2:Nat):Int):=by rw [hK'];simp
        omega
      rw [Nat.mul_add,Nat.mul_comm cn odd.length] at hKn;have hlt:q % cn+j*cn<K:=by omega
      refine ⟨i+((q % cn+j*cn:Nat):Int)*s,Or.inr ⟨_,hlt,rfl,?_⟩,?_⟩
      · have ho2:iW odd (i+((q % cn+j*cn:Nat):Int)*s)=none:=iT.2 (fun g hg e=>j2 g hg (by rw [e0];exact e))
        have:fs (cn:Int) core odd (i+((q % cn+j*cn:Nat):Int)*s)=fO (cn:Int) core (i+((q % cn+j*cn:Nat):Int)*s):=by unfold fs;rw [ho2]
        rw [this];have hmod:(i+((q % cn+j*cn:Nat):Int)*s) % (cn:Int)=m % (cn:Int):=by
          have hq2:(q:Int)=((q % cn:Nat):Int)+(cn:Int)*((q / cn:Nat):Int):=by have:=Nat.mod_add_div q cn;rw [← Int.natCast_mul,← Int.natCast_add,this]
          have:i+((q % cn+j*cn:Nat):Int)*s=m+(cn:Int)*(((j:Int) - ((q / cn:Nat):Int))*s):=by
            rw [aa,hq2,Int.natCast_add,Int.natCast_mul];rcases hs with rfl | rfl
            · simp only [Int.mul_one,Int.mul_sub,Int.mul_comm (j:Int)];omega
            · simp only [Int.mul_neg,Int.mul_one,Int.mul_sub,Int.neg_sub,Int.mul_comm (j:Int)];omega
          rw [this,Int.add_mul_emod_self_left]
        unfold fO at hn ⊢;rw [hmod];exact hn
      · rw [aa]
        have:(q % cn+j*cn:Nat)≤q:=by omega
        rcases hs with rfl | rfl <;> omega
end
variable [Inhabited WT]
variable {p c:Int} {core:List (List Sp)} {odd:List Gn}
theorem ahF (k:Nat) (a b:Int) (ha : -4611686018427387904≤a∧a≤4611686018427387904) (hb:0<b∧b≤4611686018427387904):agG.f k a b=some (a / b,a % b):=by
  have h1:=Int.emod_nonneg a (show b≠0 by omega);have h2:=Int.emod_lt_of_pos a hb.1;have h3:=Int.mul_ediv_add_emod a b;have hq:=abm ha hb.1;have b0:¬ b=0:=by omega
  unfold agG.f;simp only [b0,if_false,decide_eq_true_eq];have ht:=Int.tmod_add_mul_tdiv a b;rcases Int.lt_or_le a 0 with hneg | hpos
  · by_cases hz:Int.tmod a b=0
    · have hdvd:b ∣ a:=Int.dvd_of_tmod_eq_zero hz
      have e1:a % b=0:=Int.emod_eq_zero_of_dvd hdvd;have e2:Int.tdiv a b=a / b:=by
        have:b*Int.tdiv a b=b*(a / b):=by rw [hz] at ht;omega
        exact Int.eq_of_mul_eq_mul_left (by omega) this
      simp only [hz,e2,e1];rw [iJ (n:=a / b) (by omega) (by omega)];simp
    · have t1:Int.tmod a b≤0:=(by have h0:=Int.tmod_nonneg b (show 0 ≤ -a by omega);rw [Int.neg_tmod] at h0;omega)
      have t2 : -b<Int.tmod a b:=by
        have:=Int.lt_tmod_of_pos a hb.1;omega
      have e2:Int.tdiv a b=a / b+1:=by
        have k1:b*(a / b - Int.tdiv a b)=Int.tmod a b - a % b:=by rw [Int.mul_sub];omega
        have k2:a / b - Int.tdiv a b<0:=by
          rcases Int.lt_or_le (a / b - Int.tdiv a b) 0 with g | g
          · exact g
          · have:0≤b*(a / b - Int.tdiv a b):=Int.mul_nonneg (by omega) g
            omega
        have k3 : -2<a / b - Int.tdiv a b:=by
          rcases Int.lt_or_le (-2) (a / b - Int.tdiv a b) with g | g
          · exact g
          · have:b*(a / b - Int.tdiv a b)≤b*(-2):=Int.mul_le_mul_of_nonneg_left g (by omega)
            omega
        omega
      have e1:Int.tmod a b+b=a % b:=by
        have:b*Int.tdiv a b=b*(a / b)+b:=by rw [e2,Int.mul_add,Int.mul_one]
        omega
      have a1:Int.tmod a b<0:=by omega
      simp only [a1,e2,e1,if_true];rw [iJ (n:=a / b+1) (by omega) (by omega),iJ (n:=a / b+1 - 1) (by omega) (by omega),iJ (n:=a % b) (by omega) (by omega)];simp
  · have e1:Int.tmod a b=a % b:=Int.tmod_eq_emod_of_nonneg hpos
    have e2:Int.tdiv a b=a / b:=Int.tdiv_eq_ediv_of_nonneg hpos;have a1:¬ a % b<0:=by omega
    simp only [e1,e2,a1,if_false];rw [iJ (n:=a / b) (by omega) (by omega)]
theorem ahG (h:SF p c core odd) (i:Int) (hi : -4611686018427387904≤i∧i≤4611686018427387904):∃ q,Ev (fun k=>agA.f k p c core odd i) (fs c core odd i,q)∧fb p c odd i=q*p∧(c=0→q=0) ∧ -4611686018427387904≤q∧q≤4611686018427387904:=by
  have hlo:=h.hlo;have hc0:=h.hc;have key:∀ (X:Option ((List Sp) × Int)) (v:(List Sp) × Int),(iW odd i=none→X=some v)→∀ (rest pre:List Gn),odd=pre++rest→iW odd i=iW rest i→Ev (fun k=>agA.l0 (fun y1=>some (y1,(0:Int))) X i odd k (pre.length:Int)) (match iW rest i with | some l=>(l,0) | none=>v):=by
    intro X v hX rest;induction rest with
    | nil =>
      intro pre hp he;have c1:¬ (pre.length:Int)<(odd.length:Int):=by rw [hp];simp
      refine Ev.step (fun k=>rfl) ?_;simp only [agA.l0,agA.l0T,decide_eq_true_eq,c1,if_false,iW];rw [hX he];exact Ev.now _
    | cons g r ih =>
      intro pre hp he;have hlen:pre.length+1≤odd.length:=by rw [hp];simp
      have hrd:gG odd (pre.length:Int)=g:=by simp [hp,gG]
      have c1:(pre.length:Int)<(odd.length:Int):=by omega
      have c2:(0:Int)≤(pre.length:Int):=by omega
      have hw:=nx c1 c2 (by omega);refine Ev.step (fun k=>rfl) ?_;simp only [agA.l0,agA.l0T,decide_eq_true_eq,c1,c2,hrd,hw,if_true];simp only [iW] at he ⊢;by_cases e:g.f0=i
      · rw [if_pos e]
        exact Ev.yes e (Ev.now _)
      · rw [if_neg e] at he ⊢
        have hi2:=ih (pre++[g]) (by rw [hp];simp) he;rw [← len1] at hi2;exact Ev.no e hi2
  unfold agA.f;by_cases hc:c=0
  · have:=key (some ([],(0:Int))) ([],0) (fun _=>rfl) odd [] rfl rfl
    refine ⟨0,?_,?_,fun _=>rfl,by omega,by omega⟩
    · simp only [hc,decide_true,if_true]
      have e:(fs 0 core odd i,(0:Int))=(match iW odd i with | some l=>(l,0) | none=>([],0)):=by
        unfold fs fO;cases iW odd i with
        | some l=>rfl
        | none=>simp
      rw [e];exact this
    · unfold fb
      cases iW odd i with
      | some l=>simp
      | none=>simp [hc]
  · have h1:=Int.emod_nonneg i hc
    have h2:=Int.emod_lt_of_pos i (show 0<c by omega);have hq:=abm (b:=c) hi (by omega);have hl:=h.hl;have hX:∀ k,(if (decide (c=0))=true then (some ([],(0:Int))) else ((agG.f k i c).bind fun t2=>(if 0≤t2.2 then (if t2.2<(core.length:Int) then (some ((gL core t2.2),t2.1)) else none) else none)))=some (fO c core i,i / c):=by
      intro k;have c3:i % c<(core.length:Int):=by omega
      rw [ahF k i c hi (by omega)];simp only [hc,decide_false,Bool.false_eq_true,if_false,Option.bind_some,h1,c3,if_true];unfold fO;rw [if_neg hc]
    simp only [hX];have:=key (some (fO c core i,i / c)) (fO c core i,i / c) (fun _=>rfl) odd [] rfl rfl;cases ho:iW odd i with
    | some l =>
      refine ⟨0,?_,by simp [fb,ho],fun _=>rfl,by omega,by omega⟩;rw [ho] at this;have e:fs c core odd i=l:=by unfold fs;rw [ho]
      rw [e];exact this
    | none =>
      refine ⟨i / c,?_,by simp [fb,ho],fun e=>absurd e hc,by omega,by omega⟩;rw [ho] at this;have e:fs c core odd i=fO c core i:=by unfold fs;rw [ho]
      rw [e];exact this
theorem aiw (h:SF p c core odd) (i:Int) (hi : -4611686018427387904≤i∧i≤4611686018427387904):Ev (fun k=>agS.f k p c core odd i) (decide (fs c core odd i≠[])):=by
  obtain ⟨q,q1,_⟩:=ahG h i hi;unfold agS.f;refine Ev.bind q1 ?_;have:decide (((fs c core odd i).length:Int)>0)=decide (fs c core odd i≠[]):=by
    cases fs c core odd i with
    | nil=>simp
    | cons a l=>simp
  simp only [this];exact Ev.now _
end Go.Proofs.YtcomnjodjijcmaaGreat.Q
