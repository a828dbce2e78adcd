/- Lemmas for laws of chapter 7: what the functions that they reach compute. No condition of its own. -/
import Derived.Test.YtongeknogcboiaaGreatYW16
namespace Go.Proofs.YtongeknogcboiaaGreat.Q
set_option linter.unusedVariables false
set_option linter.unusedSimpArgs false
open Go.RowKit Go.Proofs.YtongeknogcboiaaGreatW.fP Go.Proofs.YtongeknogcboiaaGreatW.iD M R P
variable [Inhabited WT]
variable {p c:Int} {core:List (List Sp)} {odd:List Gn}
theorem abg (h:SF p c core odd) (i:Int) (hi : -4611686018427387904≤i∧i≤4611686018427387904):Ev (fun k=>jv.f k p c core odd i) (pz p c core odd i):=by
  obtain ⟨r,r1,r2⟩:=uh h i;have hc0:=h.hc;have hl0:=h.hl;unfold jv.f;refine Ev.bind r1 ?_;by_cases hr:r.2=true
  · obtain ⟨hj,he⟩:=r2.is hr
    have hv:pz p c core odd i=(odd[r.1.toNat].f1,0,0):=by
      unfold pz;rw [← he,qR h.hup (List.getElem_mem hj)]
    rw [hv];have c1:=r2.low;have c2:r.1<(odd.length:Int):=by omega
    simp only [hr,c1,c2,if_true,ahj odd _ hj];exact Ev.now _
  · have hr':r.2=false:=by simpa using hr
    have hno:=r2.no hr';simp only [hr',Bool.false_eq_true,if_false,decide_eq_true_eq];by_cases hc:c=0
    · have hv:pz p c core odd i=([],0,0):=by unfold pz;rw [hno];simp [hc]
      rw [hv];exact Ev.yes hc (Ev.now _)
    · have hv:pz p c core odd i=(iM c core i,abI (i / c) p):=by unfold pz;rw [hno];simp [hc]
      rw [hv];refine Ev.no hc (Ev.bind (uj i c hi (by omega)) ?_);have h1:=Int.emod_nonneg i hc;have h2:=Int.emod_lt_of_pos i (show 0<c by omega);have hq:=abe (b:=c) hi (by omega);have hp0:=h.hp0;have hp1:=h.hp1;refine Ev.bind (afj (i / c) p (by omega) (by omega)) ?_;have h4:(i % c).toNat<core.length:=by omega
      have e2:iM c core i=core[(i % c).toNat]:=by unfold iM;rw [if_neg hc,List.getD_eq_getElem?_getD,List.getElem?_eq_getElem h4];rfl
      have h5:i % c<(core.length:Int):=by omega
      simp only [h1,h5,if_true,e2,ahk core _ h4];exact Ev.now _
theorem jH (h:SF p c core odd) (i:Int):Ev (fun k=>iy.f k p c core odd i) (lC p c core odd i):=by
  unfold iy.f lC;simp only [kJ,Option.bind_some,Bool.not_eq_true',decide_eq_true_eq,decide_eq_false_iff_not];by_cases hi:inR i
  · have hi':=hi
    unfold inR at hi';simp only [hi,not_true,if_false,if_true];refine Ev.bind (abg h i (by omega)) ?_;have hk:=vP (p:=p) (c:=c) (core:=core) (odd:=odd) i;have aa:=h.wZ i;by_cases hz:fs c core odd i=[]
    · rw [if_pos hz]
      exact Ev.yes (by rw [hk,hz];rfl) (Ev.now _)
    · rw [if_neg hz]
      have hlen:¬ ((fs c core odd i).length:Int)=0:=by
        intro e;exact hz (List.eq_nil_of_length_eq_zero (by omega))
      simp only [hk,hlen,if_false];have ab:=aa.ends hz;by_cases he:(pz p c core odd i).2.2=0
      · simp only [he,not_true,if_false]
        have hb:(pz p c core odd i).2.1=fb p c odd i ∧ -9223372036854775808≤fb p c odd i∧fb p c odd i≤9223372036854775807:=by
          unfold pz at he ⊢;unfold fb;cases ho:jI odd i with
          | some l=>simp
          | none =>
            simp only [ho] at he ⊢;by_cases hc:c=0
            · subst hc;simp
            · simp only [if_neg hc,abI] at he ⊢
              split at he
              · rename_i hm;simp only [if_pos hm];exact ⟨trivial,hm⟩
              · simp at he
        simp only [hb.1];exact Ev.bind (f:=fun _ a=>some (a.1,a.2)) (aee _ _ aa hb.2) (Ev.now _)
      · have hb:fb p c odd i < -9223372036854775808∨9223372036854775807<fb p c odd i:=by
          unfold pz at he;unfold fb;cases ho:jI odd i with
          | some l=>simp [ho] at he
          | none =>
            simp only [ho] at he ⊢;by_cases hc:c=0
            · simp [hc] at he
            · simp only [if_neg hc,abI] at he
              split at he
              · simp at he
              · omega
        have hm:qP (fb p c odd i) (fs c core odd i)=([],20):=by
          unfold qP;rw [if_neg];rw [aa.oN hz];omega
        rw [hm];exact Ev.yes he (Ev.now _)
  · simp only [hi,not_false_eq_true,if_true,if_false]
    exact Ev.now _
theorem uo (h:SF p c core odd) (i:Int) (hi:inR i):Ev (fun k=>jT.f k p c core odd i) (decide (fs c core odd i≠[])):=by
  unfold inR at hi;unfold jT.f;refine Ev.bind (abg h i (by omega)) ?_;rw [vP];refine Ev.congr (f:=fun _=>some (decide (fs c core odd i≠[]))) (fun k => ?_) (Ev.now _);congr 1;cases fs c core odd i with
  | nil=>simp
  | cons s r=>simp
theorem abh (h:SF p c core odd):∃ b,Ev (fun k=>gU.f k p c core odd) b∧(b=true↔∀ l∈core,l=[]):=by
  have hl0:=h.hl;unfold gU.f;have key:∀ (rest pre:List (List Sp)),core=pre++rest→(∀ l∈pre,l=[])→∃ b,Ev (fun k=>gU.l0 (fun y=>some (!decide (y≥0))) (some true) core (core.length:Int) k (pre.length:Int)) b∧(b=true↔∀ l∈core,l=[]):=by
    intro rest;induction rest with
    | nil =>
      intro pre hp he;refine ⟨true,Ev.step (f:=fun _=>some true) (fun k => ?_) (Ev.now _),?_⟩
      · have c1:¬ (pre.length:Int)<(core.length:Int):=by rw [hp];simp
        simp only [gU.l0,gU.l0T,decide_eq_true_eq,c1,if_false]
      · simp only [List.append_nil] at hp
        subst hp;exact ⟨fun _=>he,fun _=>rfl⟩
    | cons l r ih =>
      intro pre hp he;have hlen:pre.length+1≤core.length:=by rw [hp];simp
      have hrd:gL core (pre.length:Int)=l:=by rw [hp];simp [gL]
      have c1:(pre.length:Int)<(core.length:Int):=by omega
      have c2:(0:Int)≤(pre.length:Int):=by omega
      have hw:=nx c1 c2 (by omega);by_cases hz:l=[]
      · obtain ⟨x,x1,x2⟩:=ih (pre++[l]) (by rw [hp];simp) (fun y hy=>by rcases List.mem_append.1 hy with hy | hy;exact he y hy;simp at hy;rw [hy];exact hz)
        refine ⟨x,Ev.step (fun k=>rfl) ?_,x2⟩;simp only [gU.l0,gU.l0T,decide_eq_true_eq,c1,c2,if_true,hrd,hw,jh.f,hz,Option.bind_some];rw [len1 _ l];exact x1
      · refine ⟨false,Ev.step (f:=fun _=>some false) (fun k => ?_) (Ev.now _),?_⟩
        · have:((l.length:Int)>0):=by have:=List.length_pos_iff.2 hz;omega
          simp only [gU.l0,gU.l0T,decide_eq_true_eq,c1,c2,if_true,hrd,jh.f,this,Option.bind_some];simp
        · constructor
          · intro e;cases e
          · intro e;exact absurd (e l (by rw [hp];simp)) hz
  exact key core [] rfl (by simp)
theorem zI (h:SF p c core odd) (a:Int) (ha : -1099511627776≤a∧a≤1099511627777):∃ r,Ev (fun k=>fO.f k p c core odd a 1) r∧yI c core odd a r:=by
  have hlo:=h.hlo;obtain ⟨b,b1,b2⟩:=abh h;unfold fO.f;by_cases hb:b=true
  · have hbare:=b2.1 hb
    obtain ⟨r,r1,r2⟩:=uh h a;have key:∀ (d n:Nat),odd.length - n=d→n≤odd.length→(∀ j (hj:j<odd.length),j<n→odd[j].f0<a∨odd[j].f1=[])→(∀ j (hj:j<odd.length),n≤j→a≤odd[j].f0) →
        ∃ x,Ev (fun k=>fO.l1 (fun y=>some (y,true)) (some (0,false)) 1 odd k (n:Int)) x∧yI c core odd a x:=by
      intro d;induction d with
      | zero =>
        intro n hd hn h1 h2;have hnn:n=odd.length:=by omega
        refine ⟨(0,false),Ev.step (f:=fun _=>some (0,false)) (fun k => ?_) (Ev.now _),(fun e=>by cases e),fun _=>⟨rfl,fun m hm _ => ?_⟩⟩
        · have c1:¬ (n:Int)<(odd.length:Int):=by omega
          simp [fO.l1,fO.l1T,c1]
        · refine Classical.byContradiction fun hne => ?_
          obtain ⟨j,hj,e1,e2⟩:=tX h hbare hne;rcases h1 j hj (by omega) with g | g
          · omega
          · exact e2 g
      | succ d ih =>
        intro n hd hn h1 h2;have hlt:n<odd.length:=by omega
        have c0:(n:Int)≥0:=by omega
        have c1:(n:Int)<(odd.length:Int):=by omega
        have c2:(0:Int)≤(n:Int):=by omega
        by_cases hz:odd[n].f1=[]
        · obtain ⟨x,x1,x2⟩:=ih (n+1) (by omega) (by omega) (fun j hj hjn=>by
            rcases Nat.lt_or_ge j n with g | g
            · exact h1 j hj g
            · have:j=n:=by omega
              subst this;exact .inr hz) (fun j hj hjn=>h2 j hj (by omega))
          refine ⟨x,Ev.step (fun k=>rfl) ?_,x2⟩;have hw:wq ((n:Int)+1)=((n+1:Nat):Int):=by rw [je (by omega) (by omega)];simp
          simp only [fO.l1,fO.l1T,decide_eq_true_eq,c0,c1,c2,if_true,rdG odd n hlt,hz,hw];exact x1
        · refine ⟨(odd[n].f0,true),Ev.step (f:=fun _=>some (odd[n].f0,true)) (fun k => ?_) (Ev.now _),fun _=>⟨h2 n hlt (Nat.le_refl _),h.hidx _ (List.getElem_mem hlt),by rw [vQ h hlt];exact hz,fun m hm1 hm2 => ?_⟩,(fun e=>by cases e)⟩
          · have c3:(odd[n].f1.length:Int)>0:=by have:=List.length_pos_iff.2 hz;omega
            simp only [fO.l1,fO.l1T,decide_eq_true_eq,c0,c1,c2,c3,if_true,rdG odd n hlt]
          · refine Classical.byContradiction fun hne => ?_
            obtain ⟨j,hj,e1,e2⟩:=tX h hbare hne;rcases Nat.lt_or_ge j n with g | g
            · rcases h1 j hj g with g2 | g2
              · omega
              · exact e2 g2
            · rcases Nat.lt_or_ge n j with g2 | g2
              · have:=w9 h.hup hj g2;simp only at hm2;omega
              · have:j=n:=by omega
                subst this;simp only at hm2;omega
    have e1:(r.1.toNat:Int)=r.1:=Int.toNat_of_nonneg r2.low;have hhi:=r2.high;obtain ⟨x,x1,x2⟩:=key _ r.1.toNat rfl (by omega) (fun j hj hjn=>.inl (r2.below j hj (by omega))) (fun j hj hjn=>r2.above j hj (by omega));rw [e1] at x1;refine ⟨x,?_,x2⟩;refine Ev.bind b1 (Ev.yes hb (Ev.bind r1 (Ev.no (by simp) ?_)));exact x1
  · have key:∀ (d:Nat) (i:Int),(1099511627777 - i).toNat=d→a≤i→i≤1099511627777→(∀ m,a≤m→m<i→fs c core odd m=[])→∃ x,Ev (fun k=>fO.l2 (fun y=>some (y,true)) (some (0,false)) 1 p c core odd k i) x∧yI c core odd a x:=by
      intro d;induction d with
      | zero =>
        intro i hd h1 h2 h3;have hi:¬ inR i:=by unfold inR;omega
        refine ⟨(0,false),Ev.step (f:=fun _=>some (0,false)) (fun k => ?_) (Ev.now _),(fun e=>by cases e),fun _=>⟨rfl,fun m hm hr=>h3 m hm (by unfold inR at hr;omega)⟩⟩;simp [fO.l2,fO.l2T,kJ,hi]
      | succ d ih =>
        intro i hd h1 h2 h3;have hi:inR i:=by unfold inR;omega
        by_cases hz:fs c core odd i=[]
        · obtain ⟨x,x1,x2⟩:=ih (i+1) (by omega) (by omega) (by omega) (fun m hm1 hm2=>by
            rcases Int.lt_or_le m i with g | g
            · exact h3 m hm1 g
            · have:m=i:=by omega
              subst this;exact hz)
          refine ⟨x,Ev.step (fun k=>rfl) ?_,x2⟩;simp only [fO.l2,fO.l2T,kJ,hi,decide_true,Option.bind_some,if_true];refine Ev.bind (uo h i hi) (Ev.no (by simp [hz]) ?_);rw [je (by omega) (by omega)];exact x1
        · refine ⟨(i,true),Ev.step (fun k=>rfl) ?_,fun _=>⟨h1,hi,hz,h3⟩,(fun e=>by cases e)⟩
          simp only [fO.l2,fO.l2T,kJ,hi,decide_true,Option.bind_some,if_true];exact Ev.bind (uo h i hi) (Ev.yes (by simp [hz]) (Ev.now _))
    obtain ⟨x,x1,x2⟩:=key _ a rfl (Int.le_refl _) ha.2 (fun m h1 h2=>by omega);exact ⟨x,Ev.bind b1 (Ev.no hb x1),x2⟩
theorem zJ (h:SF p c core odd) (a:Int) (ha : -1099511627777≤a∧a≤1099511627776):∃ r,Ev (fun k=>fO.f k p c core odd a (-1)) r∧yJ c core odd a r:=by
  have hlo:=h.hlo;obtain ⟨b,b1,b2⟩:=abh h;unfold fO.f;by_cases hb:b=true
  · have hbare:=b2.1 hb
    obtain ⟨r,r1,r2⟩:=uh h a;have key:∀ (n:Nat),n≤odd.length→(∀ j (hj:j<odd.length),n≤j→a<odd[j].f0∨odd[j].f1=[])→(∀ j (hj:j<odd.length),j<n→odd[j].f0≤a) →
        ∃ x,Ev (fun k=>fO.l1 (fun y=>some (y,true)) (some (0,false)) (-1) odd k ((n:Int) - 1)) x∧yJ c core odd a x:=by
      intro n;induction n with
      | zero =>
        intro hn h1 h2;refine ⟨(0,false),Ev.step (f:=fun _=>some (0,false)) (fun k => ?_) (Ev.now _),(fun e=>by cases e),fun _=>⟨rfl,fun m hm _ => ?_⟩⟩
        · simp [fO.l1,fO.l1T]
        · refine Classical.byContradiction fun hne => ?_
          obtain ⟨j,hj,e1,e2⟩:=tX h hbare hne;rcases h1 j hj (by omega) with g | g
          · omega
          · exact e2 g
      | succ n ih =>
        intro hn h1 h2;have hlt:n<odd.length:=by omega
        have en:((n+1:Nat):Int) - 1=(n:Int):=by omega
        rw [en];have c0:(n:Int)≥0:=by omega
        have c1:(n:Int)<(odd.length:Int):=by omega
        have c2:(0:Int)≤(n:Int):=by omega
        by_cases hz:odd[n].f1=[]
        · obtain ⟨x,x1,x2⟩:=ih (by omega) (fun j hj hjn=>by
            rcases Nat.lt_or_ge n j with g | g
            · exact h1 j hj g
            · have:j=n:=by omega
              subst this;exact .inr hz) (fun j hj hjn=>h2 j hj (by omega))
          refine ⟨x,Ev.step (fun k=>rfl) ?_,x2⟩;have hw:wq ((n:Int) + -1)=(n:Int) - 1:=by rw [je (by omega) (by omega)];omega
          simp only [fO.l1,fO.l1T,decide_eq_true_eq,c0,c1,c2,if_true,rdG odd n hlt,hz,hw];exact x1
        · refine ⟨(odd[n].f0,true),Ev.step (f:=fun _=>some (odd[n].f0,true)) (fun k => ?_) (Ev.now _),fun _=>⟨h2 n hlt (by omega),h.hidx _ (List.getElem_mem hlt),by rw [vQ h hlt];exact hz,fun m hm1 hm2 => ?_⟩,(fun e=>by cases e)⟩
          · have c3:(odd[n].f1.length:Int)>0:=by have:=List.length_pos_iff.2 hz;omega
            simp only [fO.l1,fO.l1T,decide_eq_true_eq,c0,c1,c2,c3,if_true,rdG odd n hlt]
          · refine Classical.byContradiction fun hne => ?_
            obtain ⟨j,hj,e1,e2⟩:=tX h hbare hne;rcases Nat.lt_or_ge n j with g | g
            · rcases h1 j hj g with g2 | g2
              · omega
              · exact e2 g2
            · rcases Nat.lt_or_ge j n with g2 | g2
              · have:=w9 h.hup hlt g2;simp only at hm2;omega
              · have:j=n:=by omega
                subst this;simp only at hm2;omega
    have e1:(r.1.toNat:Int)=r.1:=Int.toNat_of_nonneg r2.low;have hhi:=r2.high;by_cases hr:r.2=true
    · obtain ⟨hj,he⟩:=r2.is hr
      obtain ⟨x,x1,x2⟩:=key (r.1.toNat+1) (by omega) (fun j hj2 hjn=>.inl (by have:=w9 h.hup hj2 (show r.1.toNat<j by omega);omega)) (fun j hj2 hjn=>by
        rcases Nat.lt_or_ge j r.1.toNat with g | g
        · have:=w9 h.hup hj g;omega
        · have:j=r.1.toNat:=by omega
          subst this;omega)
      have en:((r.1.toNat+1:Nat):Int) - 1=r.1:=by omega
      rw [en] at x1;exact ⟨x,Ev.bind b1 (Ev.yes hb (Ev.bind r1 (Ev.yes (by simp) (Ev.no (by simp [hr]) x1)))),x2⟩
    · have hr':r.2=false:=by simpa using hr
      have hno:=pq.1 (r2.no hr');obtain ⟨x,x1,x2⟩:=key r.1.toNat (by omega) (fun j hj2 hjn=>.inl (by have:=r2.above j hj2 (by omega);have:=hno _ (List.getElem_mem hj2);omega)) (fun j hj2 hjn=>by have:=r2.below j hj2 (by omega);omega);have en:((r.1.toNat:Nat):Int) - 1=wq (r.1 - 1):=by rw [je (by have:=r2.low;omega) (by omega)];omega
      rw [en] at x1;exact ⟨x,Ev.bind b1 (Ev.yes hb (Ev.bind r1 (Ev.yes (by simp) (Ev.yes (by simp [hr']) x1)))),x2⟩
  · have key:∀ (d:Nat) (i:Int),(i+1099511627777).toNat=d→i≤a → -1099511627777≤i→(∀ m,m≤a→i<m→fs c core odd m=[])→∃ x,Ev (fun k=>fO.l2 (fun y=>some (y,true)) (some (0,false)) (-1) p c core odd k i) x∧yJ c core odd a x:=by
      intro d;induction d with
      | zero =>
        intro i hd h1 h2 h3;have hi:¬ inR i:=by unfold inR;omega
        refine ⟨(0,false),Ev.step (f:=fun _=>some (0,false)) (fun k => ?_) (Ev.now _),(fun e=>by cases e),fun _=>⟨rfl,fun m hm hr=>h3 m hm (by unfold inR at hr;omega)⟩⟩;simp [fO.l2,fO.l2T,kJ,hi]
      | succ d ih =>
        intro i hd h1 h2 h3;have hi:inR i:=by unfold inR;omega
        by_cases hz:fs c core odd i=[]
        · obtain ⟨x,x1,x2⟩:=ih (i - 1) (by omega) (by omega) (by omega) (fun m hm1 hm2=>by
            rcases Int.lt_or_le i m with g | g
            · exact h3 m hm1 g
            · have:m=i:=by omega
              subst this;exact hz)
          refine ⟨x,Ev.step (fun k=>rfl) ?_,x2⟩;simp only [fO.l2,fO.l2T,kJ,hi,decide_true,Option.bind_some,if_true];refine Ev.bind (uo h i hi) (Ev.no (by simp [hz]) ?_);rw [je (by omega) (by omega)];exact x1
        · refine ⟨(i,true),Ev.step (fun k=>rfl) ?_,fun _=>⟨h1,hi,hz,h3⟩,(fun e=>by cases e)⟩
          simp only [fO.l2,fO.l2T,kJ,hi,decide_true,Option.bind_some,if_true];exact Ev.bind (uo h i hi) (Ev.yes (by simp [hz]) (Ev.now _))
    obtain ⟨x,x1,x2⟩:=key _ a rfl (Int.le_refl _) ha.1 (fun m h1 h2=>by omega);exact ⟨x,Ev.bind b1 (Ev.no hb x1),x2⟩
theorem nC (h:SF p c core odd) (i:Int) (hi : -9223372036854775808≤i∧i≤9223372036854775807):∃ r,Ev (fun k=>iA.f k p c core odd i) r∧yI c core odd (max (i+1) (-1099511627776)) r:=by
  simp only [iA.f,decide_eq_true_eq];by_cases hm:i≥1099511627776
  · exact ⟨(0,false),Ev.yes hm (Ev.now _),(fun e=>by cases e),fun _=>⟨rfl,fun m h1 h2=>by unfold inR at h2;omega⟩⟩
  · obtain ⟨r,r1,r2⟩:=zI h (max (i+1) (-1099511627776)) (by omega)
    rw [je (n:=i+1) (by omega) (by omega),afe];exact ⟨r,Ev.no hm (Ev.bind (f:=fun _ a=>some (a.1,a.2)) r1 (Ev.now _)),r2⟩
theorem nD (h:SF p c core odd) (i:Int) (hi : -9223372036854775808≤i∧i≤9223372036854775807):∃ r,Ev (fun k=>iB.f k p c core odd i) r∧yJ c core odd (min (i - 1) 1099511627776) r:=by
  simp only [iB.f,decide_eq_true_eq];by_cases hm:i ≤ -1099511627776
  · exact ⟨(0,false),Ev.yes hm (Ev.now _),(fun e=>by cases e),fun _=>⟨rfl,fun m h1 h2=>by unfold inR at h2;omega⟩⟩
  · obtain ⟨r,r1,r2⟩:=zJ h (min (i - 1) 1099511627776) (by omega)
    rw [je (n:=i - 1) (by omega) (by omega),aeb];exact ⟨r,Ev.no hm (Ev.bind (f:=fun _ a=>some (a.1,a.2)) r1 (Ev.now _)),r2⟩
end Go.Proofs.YtongeknogcboiaaGreat.Q
namespace Go.Proofs.YtongeknogcboiaaGreat.Q
set_option linter.unusedVariables false
set_option linter.unusedSimpArgs false
open Go.RowKit Go.Proofs.YtongeknogcboiaaGreatW.fP Go.Proofs.YtongeknogcboiaaGreatW.iD M R P
section
variable {p c:Int} {core:List (List Sp)} {odd:List Gn}
structure Bes (p c:Int) (core:List (List Sp)) (odd:List Gn) (i:Int):Prop where
  he:(lC p c core odd i).2=0
  up:∀ k,i<k→inR k→fs c core odd k≠[]→gap c core odd i k→(lC p c core odd k).2=0∧j6 (lC p c core odd i).1 (lC p c core odd k).1=true
  dn:∀ k,k<i→inR k→fs c core odd k≠[]→gap c core odd k i→(lC p c core odd k).2=0∧j6 (lC p c core odd k).1 (lC p c core odd i).1=true
  ov:∀ j k,j<i→i<k→inR j→inR k→fs c core odd j≠[]→fs c core odd k≠[]→gap c core odd j i→gap c core odd i k→j6 (lC p c core odd j).1 (lC p c core odd k).1=true
def pW (core:List (List Sp)) (odd:List Gn):Int:=((core.map fun l=>(l.length:Int)).sum)+((odd.map fun g=>(g.f1.length:Int)).sum)
structure GR (p c:Int) (core:List (List Sp)) (odd:List Gn):Prop where
  s:SF p c core odd
  t:TF p core
  b:∀ g∈odd,Bes p c core odd g.f0
theorem ada (x:List Sp) (hx:x≠[]):0<x.length∧(gS x 0).f0=kZ x:=afg x hx
theorem acJ (h:SF p c core odd) (j:Int):(lC p c core odd j).1.length≤4611686018427387904:=by
  have hs:=(h.wZ j).aa3;unfold lC;split
  · split
    · simp
    · unfold qP;split
      · simp;omega
      · simp
  · simp
theorem zK (l:List Sp):j6 l []=true:=by unfold j6;cases l.getLast? <;> rfl
theorem su {l:List Int} (h:∀ x∈l,0≤x):0≤l.sum:=by
  induction l with
  | nil=>simp
  | cons a r ih=>have:=h a (by simp);have:=ih (fun x hx=>h x (by simp [hx]));simp;omega
theorem GR.fok (h:GR p c core odd):FOK p c core odd:=FOK.of h.s h.t ⟨fun g hg hgn k hk rk nk gk=>by
    have hb:=h.b g hg;obtain ⟨b1,b2⟩:=hb.up k hk rk nk gk;obtain ⟨j,hj,rfl⟩:=List.getElem_of_mem hg;have hn0:fs c core odd odd[j].f0≠[]:=by rw [vQ h.s hj];exact hgn
    have e1:=h.s.uf (h.s.hidx _ (List.getElem_mem hj)) hn0 hb.he;have e2:=h.s.uf rk nk b1;rw [h.s.j4 e1,h.s.j4 e2,vR] at b2;have g1:=lI (p:=p) hn0;have g2:=lI (p:=p) nk;have:=b2 g1.1 g2.1;rw [g1.2.2,g2.2.1] at this;exact this,fun g hg hgn k hk rk nk gk=>by
    have hb:=h.b g hg;obtain ⟨b1,b2⟩:=hb.dn k hk rk nk gk;obtain ⟨j,hj,rfl⟩:=List.getElem_of_mem hg;have hn0:fs c core odd odd[j].f0≠[]:=by rw [vQ h.s hj];exact hgn
    have e1:=h.s.uf (h.s.hidx _ (List.getElem_mem hj)) hn0 hb.he;have e2:=h.s.uf rk nk b1;rw [h.s.j4 e1,h.s.j4 e2,vR] at b2;have g1:=lI (p:=p) hn0;have g2:=lI (p:=p) nk;have:=b2 g2.1 g1.1;rw [g2.2.2,g1.2.1] at this;exact this⟩
end
variable [Inhabited WT]
variable {p c:Int} {core:List (List Sp)} {odd:List Gn}
theorem acK (m:MF core odd) (hl:core.length≤6000) (hlo:odd.length≤6000):∃ b,Ev (fun k=>fM.f k p c core odd) b∧(b=true↔SF p c core odd):=by
  have k1:∀ (rest pre:List Gn),odd=pre++rest→pre.Pairwise (fun a b=>a.f0<b.f0) →
      ∃ b,Ev (fun k=>fM.l2 (some false) (some true) odd (odd.length:Int) odd k (pre.length:Int)) b∧(b=true↔(∀ g∈rest,SL (-1099511627776) 1099511627776 g.f1∧inR g.f0)∧odd.Pairwise (fun a b=>a.f0<b.f0)):=by
    intro rest;induction rest with
    | nil =>
      intro pre hp h2;refine ⟨true,Ev.step (f:=fun _=>some true) (fun k => ?_) (Ev.now _),?_⟩
      · have c1:¬ (pre.length:Int)<(odd.length:Int):=by rw [hp];simp
        simp only [fM.l2,fM.l2T,decide_eq_true_eq,c1,if_false]
      · rw [List.append_nil] at hp;subst hp;simp [h2]
    | cons g r ih =>
      intro pre hp h2;have hlen:pre.length+1≤odd.length:=by rw [hp];simp
      have hrd:gG odd (pre.length:Int)=g:=by rw [hp];simp [gG]
      have c1:(pre.length:Int)<(odd.length:Int):=by omega
      have c2:(0:Int)≤(pre.length:Int):=by omega
      have hw:=nx c1 c2 (by omega);have hr:=yL g.f1 (m.mo g (by rw [hp];simp));by_cases hs:slB (-1099511627776) g.f1=true
      · by_cases hi:inR g.f0
        · by_cases ho:∀ a∈pre,a.f0<g.f0
          · obtain ⟨b,b1,b2⟩:=ih (pre++[g]) (by rw [hp];simp) (List.pairwise_append.2 ⟨h2,by simp,fun a ha b hb=>by simp at hb;subst hb;exact ho a ha⟩)
            refine ⟨b,Ev.step (fun k=>rfl) ?_,b2.trans ⟨fun ⟨x,y⟩=>⟨fun a ha=>by rcases List.mem_cons.1 ha with rfl | ha;exact ⟨om.1 hs,hi⟩;exact x a ha,y⟩,fun ⟨x,y⟩=>⟨fun a ha=>x a (List.mem_cons_of_mem _ ha),y⟩⟩⟩;simp only [fM.l2,fM.l2T,decide_eq_true_eq,c1,c2,if_true,hrd,hw];refine Ev.bind hr (Ev.no (by simp [hs]) ?_);simp only [kJ,Option.bind_some];refine Ev.no (by simp [hi]) ?_;rw [len1 _ g];by_cases hz:(pre.length:Int)>0
            · have hw2:wq ((pre.length:Int) - 1)=((pre.length - 1:Nat):Int):=by rw [je (by omega) (by omega)];omega
              have hpl:pre.length - 1<pre.length:=by omega
              have aa:gG odd ((pre.length - 1:Nat):Int)=pre[pre.length - 1]:=by
                rw [rdG odd (pre.length - 1) (by omega)];simp only [hp];rw [List.getElem_append_left hpl]
              have:=ho _ (List.getElem_mem hpl);simp only [hw2,aa];exact Ev.yes hz (Ev.yes (by omega) (Ev.yes (by omega) (Ev.no (by omega) b1)))
            · exact Ev.no hz b1
          · have hz:0<pre.length:=by
              cases pre with
              | nil=>exact absurd (by simp) ho
              | cons a r=>simp
            have hpl:pre.length - 1<pre.length:=by omega
            have hbad:g.f0≤pre[pre.length - 1].f0:=by
              refine Classical.byContradiction fun hx=>ho fun a ha => ?_;obtain ⟨j,hj,rfl⟩:=List.getElem_of_mem ha;rcases Nat.lt_or_ge j (pre.length - 1) with q | q
              · have:=List.pairwise_iff_getElem.1 h2 j (pre.length - 1) hj hpl q;omega
              · have:j=pre.length - 1:=by omega
                subst this;omega
            refine ⟨false,Ev.step (fun k=>rfl) ?_,(fun e=>by cases e),fun ⟨x,y⟩=>(ho fun a ha => ?_).elim⟩
            · have hw2:wq ((pre.length:Int) - 1)=((pre.length - 1:Nat):Int):=by rw [je (by omega) (by omega)];omega
              have aa:gG odd ((pre.length - 1:Nat):Int)=pre[pre.length - 1]:=by
                rw [rdG odd (pre.length - 1) (by omega)];simp only [hp];rw [List.getElem_append_left hpl]
              simp only [fM.l2,fM.l2T,decide_eq_true_eq,c1,c2,if_true,hrd,hw];refine Ev.bind hr (Ev.no (by simp [hs]) ?_);simp only [kJ,Option.bind_some,hw2,aa];exact Ev.no (by simp [hi]) (Ev.yes (by omega) (Ev.yes (by omega) (Ev.yes (by omega) (Ev.yes hbad (Ev.now _)))))
            · rw [hp] at y
              exact (List.pairwise_append.1 y).2.2 a ha g (by simp)
        · refine ⟨false,Ev.step (fun k=>rfl) ?_,(fun e=>by cases e),fun ⟨x,y⟩=>(hi (x g (by simp)).2).elim⟩
          simp only [fM.l2,fM.l2T,decide_eq_true_eq,c1,c2,if_true,hrd,hw];refine Ev.bind hr (Ev.no (by simp [hs]) ?_);simp only [kJ,Option.bind_some];exact Ev.yes (by simp [hi]) (Ev.now _)
      · refine ⟨false,Ev.step (fun k=>rfl) ?_,(fun e=>by cases e),fun ⟨x,y⟩=>(hs (om.2 (x g (by simp)).1)).elim⟩
        simp only [fM.l2,fM.l2T,decide_eq_true_eq,c1,c2,if_true,hrd,hw];exact Ev.bind hr (Ev.yes (by simp [hs]) (Ev.now _))
  have k0:∀ (rest pre:List (List Sp)),core=pre++rest→∀ (Y:Nat→Option Bool) (b:Bool),Ev Y b →
      Ev (fun k=>fM.l1 (some false) (Y k) core (core.length:Int) k (pre.length:Int)) (rest.all (slB (-1099511627776))&&b):=by
    intro rest;induction rest with
    | nil =>
      intro pre hp Y b hY;refine Ev.step (fun k=>rfl) ?_;have c1:¬ (pre.length:Int)<(core.length:Int):=by rw [hp];simp
      simp only [fM.l1,fM.l1T,decide_eq_true_eq,c1,if_false];exact Ev.shift hY
    | cons l r ih =>
      intro pre hp Y b hY;have hlen:pre.length+1≤core.length:=by rw [hp];simp
      have hrd:gL core (pre.length:Int)=l:=by rw [hp];simp [gL]
      have c1:(pre.length:Int)<(core.length:Int):=by omega
      have c2:(0:Int)≤(pre.length:Int):=by omega
      have hw:=nx c1 c2 (by omega);have hr:=yL l (m.mc l (by rw [hp];simp));refine Ev.step (fun k=>rfl) ?_;simp only [fM.l1,fM.l1T,decide_eq_true_eq,c1,c2,if_true,hrd,hw,List.all_cons];by_cases hs:slB (-1099511627776) l=true
      · rw [hs,Bool.true_and]
        have:=ih (pre++[l]) (by rw [hp];simp) (fun k=>Y (k+1)) b (Ev.shift hY);rw [← len1] at this;exact Ev.bind hr (Ev.no (by simp [hs]) this)
      · have hs':slB (-1099511627776) l=false:=by simpa using hs
        rw [hs',Bool.false_and,Bool.false_and];exact Ev.bind hr (Ev.yes (by simp [hs]) (Ev.now _))
  have wrong:∀ {P:Prop},false=true→P:=fun e=>by cases e
  unfold fM.f;by_cases hc:c=(core.length:Int)
  · by_cases hz:(decide (c=0)==decide (p=0))=true
    · have hz':decide (c=0)=decide (p=0):=by simpa using hz
      have hz2:c=0↔p=0:=by simpa using hz'
      by_cases hp0:p<0
      · exact ⟨false,Ev.no (by simp [hc]) (Ev.no (by simp [hz']) (Ev.yes (by simpa using hp0) (Ev.now _))),wrong,fun h=>absurd h.hp0 (by omega)⟩
      · by_cases hp1:p>1099511627776
        · exact ⟨false,Ev.no (by simp [hc]) (Ev.no (by simp [hz']) (Ev.no (by simpa using hp0) (Ev.yes (by simpa using hp1) (Ev.now _)))),wrong,fun h=>absurd h.hp1 (by omega)⟩
        · obtain ⟨b,b1,b2⟩:=k1 odd [] rfl List.Pairwise.nil
          have:=k0 core [] rfl _ b b1;refine ⟨_,Ev.no (by simp [hc]) (Ev.no (by simp [hz']) (Ev.no (by simpa using hp0) (Ev.no (by simpa using hp1) this))),?_⟩;rw [Bool.and_eq_true,List.all_eq_true,b2];exact ⟨fun ⟨x1,x2,x3⟩=>⟨hc,by omega,by omega,hz2,fun l hl=>om.1 (x1 l hl),fun g hg=>(x2 g hg).1,fun g hg=>(x2 g hg).2,x3,hl,hlo⟩,fun h=>⟨fun l hl=>om.2 (h.hcore l hl),fun g hg=>⟨h.hodd g hg,h.hidx g hg⟩,h.hup⟩⟩
    · refine ⟨false,Ev.no (by simp [hc]) (Ev.yes (by simpa using hz) (Ev.now _)),wrong,fun h=>(hz ?_).elim⟩
      simpa using h.hz
  · exact ⟨false,Ev.yes (by simpa using hc) (Ev.now _),wrong,fun h=>(hc h.hc).elim⟩
theorem adb (x:List Sp) (hx:x≠[]) (hl:x.length≤4611686018427387903):wq ((x.length:Int) - 1)=(x.length:Int) - 1∧0≤(x.length:Int) - 1∧(gS x ((x.length:Int) - 1)).f1=lu x:=by
  have:=aff x hx hl;rw [sP];exact this
theorem acL (h:SF p c core odd):∃ b,Ev (fun k=>fU.f k p c core odd) b∧(b=true↔TF p core):=by
  have hl:=h.hl;have hp0:=h.hp0;have hp1:=h.hp1;obtain ⟨ne,hne⟩:∃ ne,neL core=ne:=⟨_,rfl⟩;have hmem:∀ x∈ne,x∈core∧x≠[]:=fun x hx=>xg.1 (by rw [hne];exact hx);have hnl:ne.length≤6000:=by rw [← hne];exact Nat.le_trans (List.length_filter_le _ _) hl
  obtain ⟨g,hg⟩:∃ g:Nat→List Sp,g=fun j=>ne.getD j []:=⟨_,rfl⟩;have hgm:∀ j,j<ne.length→g j∈core∧g j≠[]:=fun j hj=>by
    rw [hg];simp only;rw [List.getD_eq_getElem?_getD,List.getElem?_eq_getElem hj];exact hmem _ (List.getElem_mem hj)
  have hgr:∀ j:Nat,gL ne (j:Int)=g j:=fun j=>by rw [hg];simp [gL]
  have hget:∀ j (hj2:j<ne.length),ne[j]=g j:=fun j hj2=>by rw [hg];simp only;rw [List.getD_eq_getElem?_getD,List.getElem?_eq_getElem hj2];rfl
  obtain ⟨Q,hQ⟩:∃ Q:Nat→Prop,Q=fun j=>lu (g j)<kZ (g ((j+1) % ne.length))+(if j+1=ne.length then p else 0):=⟨_,rfl⟩;have k1:∀ (d n:Nat),ne.length - n=d→n≤ne.length→(∀ j,j<n→Q j) →
      ∃ b,Ev (fun k=>fU.l1 (some false) (some true) ne ne (ne.length:Int) p k (n:Int)) b∧(b=true↔∀ j,j<ne.length→Q j):=by
    intro d;induction d with
    | zero =>
      intro n hd hn h1;refine ⟨true,Ev.step (f:=fun _=>some true) (fun k => ?_) (Ev.now _),fun _ j hj=>h1 j (by omega),fun _=>rfl⟩;have c1:¬ (n:Int)<(ne.length:Int):=by omega
      simp only [fU.l1,fU.l1T,decide_eq_true_eq,c1,if_false]
    | succ d ih =>
      intro n hd hn h1;have hlt:n<ne.length:=by omega
      obtain ⟨m,hm0⟩:∃ m,(n+1) % ne.length=m:=⟨_,rfl⟩;have hm:m<ne.length:=by rw [← hm0];exact Nat.mod_lt _ (by omega)
      have q1:(n:Int)<(ne.length:Int):=by clear hm0;omega
      have q2:(0:Int)≤(n:Int):=by clear hm0;omega
      have q3:¬ (ne.length:Int)=0:=by clear hm0;omega
      have q4:(0:Int)≤(m:Int):=by clear hm0;omega
      have q5:(m:Int)<(ne.length:Int):=by clear hm0;omega
      obtain ⟨x,hx0⟩:∃ x,g n=x:=⟨_,rfl⟩;obtain ⟨y,hy0⟩:∃ y,g m=y:=⟨_,rfl⟩;have hx:=hgm n hlt;have hy:=hgm m hm;rw [hx0] at hx;rw [hy0] at hy;have ah:=h.hcore _ hx.1;have ai:=h.hcore _ hy.1;have aj:=ai.ends hy.2;have main:∀ (X:Int),X=(if n+1=ne.length then p else 0)→0≤X→X≤p→∃ b,Ev (fun k=>if (lu x)≥(wq (kZ y+X)) then some false else fU.l1 (some false) (some true) ne ne (ne.length:Int) p k ((n+1:Nat):Int)) b∧(b=true↔∀ j,j<ne.length→Q j):=by
        intro X hX hX0 hX1;rw [je (n:=kZ y+X) (by omega) (by omega)];by_cases hb:lu x≥kZ y+X
        · refine ⟨false,Ev.yes hb (Ev.now _),(fun e=>by cases e),fun hq => ?_⟩
          have:=hq n hlt;simp only [hQ] at this;rw [hm0,hx0,hy0,← hX] at this;omega
        · obtain ⟨b,b1,b2⟩:=ih (n+1) (by omega) (by omega) (fun j hjn=>by
            rcases Nat.lt_or_ge j n with q | q
            · exact h1 j q
            · have:j=n:=by omega
              subst this;rw [hQ];simp only;rw [hm0,hx0,hy0,← hX];omega)
          exact ⟨b,Ev.no hb b1,b2⟩
      obtain ⟨l1,l2,l3⟩:=adb _ hx.2 ah.aa3;obtain ⟨f1,f2⟩:=ada _ hy.2;have e0:wq ((n:Int)+1)=((n+1:Nat):Int):=by clear l1 l2 l3 f2;rw [je (by omega) (by omega)];simp
      have e1:Int.tmod ((n+1:Nat):Int) (ne.length:Int)=(m:Int):=by
        have e2:(((n+1) % ne.length:Nat):Int)=((n+1:Nat):Int) % (ne.length:Int):=Int.natCast_emod _ _;rw [hm0] at e2;exact (Int.tmod_eq_emod_of_nonneg (Int.natCast_nonneg _)).trans e2.symm
      have r1:gL ne (n:Int)=x:=by rw [hgr,hx0]
      have r2:gL ne (m:Int)=y:=by rw [hgr,hy0]
      have q7:((x.length:Int) - 1)<(x.length:Int):=Int.sub_lt_self _ (by decide);have q8:(0:Int)<(y.length:Int):=Int.ofNat_lt.mpr f1;by_cases hlast:n+1=ne.length
      · have q6:((n+1:Nat):Int)=(ne.length:Int):=by rw [hlast]
        obtain ⟨b,b1,b2⟩:=main p (by rw [if_pos hlast]) hp0 (Int.le_refl _);refine ⟨b,Ev.step (fun k => ?_) b1,b2⟩;simp only [fU.l1,fU.l1T,decide_eq_true_eq];rw [if_pos q1,if_pos q2,if_pos q1,if_neg q3,e0,e1,if_pos q4,if_pos q5,if_pos q6,r1,r2,l1,if_pos l2,if_pos q7,if_pos q8,l3,f2]
      · obtain ⟨b,b1,b2⟩:=main 0 (by rw [if_neg hlast]) (Int.le_refl _) hp0
        refine ⟨b,Ev.step (fun k => ?_) b1,b2⟩;have q6:¬ ((n+1:Nat):Int)=(ne.length:Int):=fun e=>hlast (Int.ofNat.inj e);simp only [fU.l1,fU.l1T,decide_eq_true_eq];rw [if_pos q1,if_pos q2,if_pos q1,if_neg q3,e0,e1,if_pos q4,if_pos q5,if_neg q6,r1,r2,l1,if_pos l2,if_pos q7,if_pos q8,l3,f2]
  have fin:(∀ j,j<ne.length→Q j)↔TF p core:=by
    rw [hQ];simp only;constructor
    · intro hj
      have aa:∀ j,j<ne.length→kZ (g j)≤lu (g j):=fun j hj2=>((h.hcore _ (hgm j hj2).1).ends (hgm j hj2).2).2.1;have ab:∀ j,j+1<ne.length→lu (g j)<kZ (g (j+1)):=fun j hj1=>by
        have:=hj j (by omega);rw [Nat.mod_eq_of_lt hj1,if_neg (by omega)] at this;omega
      have ac:∀ (d i j:Nat),j<ne.length→j - i=d→i<j→lu (g i)<kZ (g j):=by
        intro d;induction d with
        | zero=>intro i j hj2 hd hij;omega
        | succ d ih =>
          intro i j hj2 hd hij;by_cases af:i+1=j
          · subst af;exact ab i hj2
          · have a1:=ab i (by omega)
            have a2:=ih (i+1) j hj2 (by omega) (by omega);have a3:=aa (i+1) (by omega);omega
      have hmono:∀ i j,j<ne.length→i≤j→kZ (g i)≤kZ (g j)∧lu (g i)≤lu (g j):=by
        intro i j hj2 hij;rcases Nat.lt_or_ge i j with q | q
        · have a1:=ac _ i j hj2 rfl q
          have a2:=aa i (by omega);have a3:=aa j hj2;omega
        · have:i=j:=by omega
          subst this;omega
      constructor
      · have hpw:ne.Pairwise (fun a b=>lu a<kZ b):=List.pairwise_iff_getElem.2 (fun i j hi hj2 hij=>by rw [hget i hi,hget j hj2];exact ac _ i j hj2 rfl hij)
        rw [← hne] at hpw;unfold neL at hpw;rw [List.pairwise_filter] at hpw;exact hpw.imp (fun hx ha hb=>hx (by simpa using ha) (by simpa using hb))
      · intro a ha b hb hna hnb
        obtain ⟨i,hi,rfl⟩:=List.getElem_of_mem (show a∈ne by rw [← hne];exact xg.2 ⟨ha,hna⟩);obtain ⟨j,hj2,rfl⟩:=List.getElem_of_mem (show b∈ne by rw [← hne];exact xg.2 ⟨hb,hnb⟩);rw [hget i hi,hget j hj2];have hz:=hj (ne.length - 1) (by omega);have e:(ne.length - 1+1) % ne.length=0:=by rw [Nat.sub_add_cancel (by omega)];exact Nat.mod_self _
        rw [e,if_pos (by omega)] at hz;have a1:=(hmono i (ne.length - 1) (by omega) (by omega)).2;have a2:=(hmono 0 j hj2 (by omega)).1;omega
    · intro t j hj
      have hpw:ne.Pairwise (fun a b=>lu a<kZ b):=by
        rw [← hne];unfold neL;rw [List.pairwise_filter];exact t.ta.imp (fun hx ha hb=>hx (by simpa using ha) (by simpa using hb))
      by_cases e:j+1=ne.length
      · rw [if_pos e]
        have e2:(j+1) % ne.length=0:=by rw [e];exact Nat.mod_self _
        rw [e2];exact t.tb _ (hgm j hj).1 _ (hgm 0 (by omega)).1 (hgm j hj).2 (hgm 0 (by omega)).2
      · rw [if_neg e,Nat.mod_eq_of_lt (by omega:j+1<ne.length)]
        have:=List.pairwise_iff_getElem.1 hpw j (j+1) hj (by omega) (by omega);rw [hget j hj,hget (j+1) (by omega)] at this;omega
  have k0:∀ (rest pre:List (List Sp)),core=pre++rest→∀ (Y:Nat→List (List Sp)→Option Bool) (b:Bool),Ev (fun k=>Y k ne) b→Ev (fun k=>fU.l0 (Y k) core (core.length:Int) k (neL pre) (pre.length:Int)) b:=by
    intro rest;induction rest with
    | nil =>
      intro pre hp Y b hY;rw [List.append_nil] at hp;refine Ev.step (fun k=>rfl) ?_;have c1:¬ (pre.length:Int)<(core.length:Int):=by rw [hp];omega
      simp only [fU.l0,fU.l0T,decide_eq_true_eq,c1,if_false];rw [← hp,hne];exact Ev.shift hY
    | cons l r ih =>
      intro pre hp Y b hY;have hlen:pre.length+1≤core.length:=by rw [hp];simp
      have hrd:gL core (pre.length:Int)=l:=by rw [hp];simp [gL]
      have c1:(pre.length:Int)<(core.length:Int):=by omega
      have c2:(0:Int)≤(pre.length:Int):=by omega
      have hw:=nx c1 c2 (by omega);have b1:=ih (pre++[l]) (by rw [hp];simp) (fun k=>Y (k+1)) b (Ev.shift hY);have hnp:(neL pre).length≤pre.length:=List.length_filter_le _ _;refine Ev.step (fun k=>rfl) ?_;simp only [fU.l0,fU.l0T,decide_eq_true_eq,c1,c2,if_true,hrd,hw];rw [acH,← len1] at b1;by_cases hz:l=[]
      · rw [if_pos hz] at b1
        exact Ev.no (by rw [hz];simp) b1
      · rw [if_neg hz] at b1
        have:0<l.length:=List.length_pos_iff.2 hz;exact Ev.yes (by omega) (Ev.yes (by omega) b1)
  obtain ⟨b,b1,b2⟩:=k1 _ 0 rfl (by omega) (fun j hj=>by omega);exact ⟨b,k0 core [] rfl (fun k y=>fU.l1 (some false) (some true) y y (y.length:Int) p k 0) b b1,b2.trans fin⟩
theorem abj (h:SF p c core odd) (i:Int) (hi:inR i):∃ b,Ev (fun k=>ji.f k p c core odd i) b∧(b=true↔Bes p c core odd i):=by
  have hi':=hi;unfold inR at hi';obtain ⟨lo,lo1,lo2⟩:=nD h i (by omega);obtain ⟨up,aa,ah⟩:=nC h i (by omega);have hah:∀ k j m,iC.f k (lC p c core odd j).1 m=some (j6 (lC p c core odd j).1 m):=fun k j m=>abd _ _ _ (acJ h j);have ai:∀ k (m:List Sp),iC.f k ([]:List Sp) m=some true:=fun k m=>by rw [abd _ _ _ (by simp)];simp [j6]
  have aj:=zK;have hup:up.2=true→∀ k,i<k→inR k→fs c core odd k≠[]→gap c core odd i k→k=up.1:=by
    intro e k h1 h2 h3 h4;obtain ⟨a1,a2,a3,a4⟩:=ah.1 e;unfold inR at h2 a2;rcases Int.lt_trichotomy k up.1 with g | g | g
    · exact absurd (a4 k (by omega) g) h3
    · exact g
    · exact absurd (h4 up.1 (by omega) g) a3
  have af:up.2=false→∀ k,i<k→inR k→fs c core odd k≠[]→False:=by
    intro e k h1 h2 h3;obtain ⟨_,a4⟩:=ah.2 e;have h2':=h2;unfold inR at h2';exact h3 (a4 k (by omega) h2)
  have ak:up.2=true→i<up.1∧inR up.1∧fs c core odd up.1≠[]∧gap c core odd i up.1:=fun e=>by
    obtain ⟨a1,a2,a3,a4⟩:=ah.1 e;exact ⟨by omega,a2,a3,fun m h1 h2=>a4 m (by unfold inR at a2;omega) h2⟩
  have hdn:lo.2=true→∀ k,k<i→inR k→fs c core odd k≠[]→gap c core odd k i→k=lo.1:=by
    intro e k h1 h2 h3 h4;obtain ⟨a1,a2,a3,a4⟩:=lo2.1 e;unfold inR at h2 a2;rcases Int.lt_trichotomy k lo.1 with g | g | g
    · exact absurd (h4 lo.1 g (by omega)) a3
    · exact g
    · exact absurd (a4 k (by omega) g) h3
  have ab:lo.2=false→∀ k,k<i→inR k→fs c core odd k≠[]→False:=by
    intro e k h1 h2 h3;obtain ⟨_,a4⟩:=lo2.2 e;have h2':=h2;unfold inR at h2';exact h3 (a4 k (by omega) h2)
  have al:lo.2=true→lo.1<i∧inR lo.1∧fs c core odd lo.1≠[]∧gap c core odd lo.1 i:=fun e=>by
    obtain ⟨a1,a2,a3,a4⟩:=lo2.1 e;exact ⟨by omega,a2,a3,fun m h1 h2=>a4 m (by unfold inR at a2;omega) h1⟩
  have wrong:∀ {P:Prop},false=true→P:=fun e=>by cases e
  simp only [ji.f,Bool.not_eq_true',decide_eq_false_iff_not];by_cases h0:(lC p c core odd i).2=0
  case neg=>exact ⟨false,Ev.bind (jH h i) (Ev.yes h0 (Ev.now _)),wrong,fun b=>(h0 b.he).elim⟩
  by_cases hlo:lo.2=true
  · obtain ⟨n1,n2,n3,n4⟩:=al hlo
    by_cases h1:(lC p c core odd lo.1).2=0
    case neg=>exact ⟨false,Ev.bind (jH h i) (Ev.no (fun q=>q h0) (Ev.bind lo1 (Ev.bind aa (Ev.yes hlo (Ev.bind (jH h lo.1) (Ev.yes h1 (Ev.now _))))))),wrong,fun b=>(h1 (b.dn _ n1 n2 n3 n4).1).elim⟩
    by_cases hu:up.2=true
    · obtain ⟨m1,m2,m3,m4⟩:=ak hu
      by_cases h2:(lC p c core odd up.1).2=0
      case neg=>exact ⟨false,Ev.bind (jH h i) (Ev.no (fun q=>q h0) (Ev.bind lo1 (Ev.bind aa (Ev.yes hlo (Ev.bind (jH h lo.1) (Ev.no (fun q=>q h1) (Ev.yes hu (Ev.bind (jH h up.1) (Ev.yes h2 (Ev.now _))))))))))
        , wrong,fun b=>(h2 (b.up _ m1 m2 m3 m4).1).elim⟩
      refine ⟨j6 (lC p c core odd lo.1).1 (lC p c core odd i).1&&(j6 (lC p c core odd i).1 (lC p c core odd up.1).1&&j6 (lC p c core odd lo.1).1 (lC p c core odd up.1).1),Ev.bind (jH h i) (Ev.no (fun q=>q h0) (Ev.bind lo1 (Ev.bind aa (Ev.yes hlo (Ev.bind (jH h lo.1) (Ev.no (fun q=>q h1) (Ev.yes hu (Ev.bind (jH h up.1) (Ev.no (fun q=>q h2) ?_))))))))),?_⟩
      · simp only [hah,Option.bind_some]
        cases j6 (lC p c core odd lo.1).1 (lC p c core odd i).1 <;> cases j6 (lC p c core odd i).1 (lC p c core odd up.1).1 <;> simp <;> exact Ev.now _
      · simp only [Bool.and_eq_true]
        exact ⟨fun ⟨e1,e2,e3⟩=>⟨h0,fun k a b c' d=>by have:=hup hu k a b c' d;subst this;exact ⟨h2,e2⟩,fun k a b c' d=>by have:=hdn hlo k a b c' d;subst this;exact ⟨h1,e1⟩,fun j k a b c' d e f g q=>by have:=hup hu k b d f q;subst this;have:=hdn hlo j a c' e g;subst this;exact e3⟩,
          fun b=>⟨(b.dn _ n1 n2 n3 n4).2,(b.up _ m1 m2 m3 m4).2,b.ov _ _ n1 m1 n2 m2 n3 m3 n4 m4⟩⟩
    · refine ⟨j6 (lC p c core odd lo.1).1 (lC p c core odd i).1,Ev.bind (jH h i) (Ev.no (fun q=>q h0) (Ev.bind lo1 (Ev.bind aa (Ev.yes hlo (Ev.bind (jH h lo.1) (Ev.no (fun q=>q h1) (Ev.no hu ?_))))))),?_⟩
      · simp only [hah,aj,Option.bind_some]
        cases j6 (lC p c core odd lo.1).1 (lC p c core odd i).1 <;> exact Ev.now _
      · have hu':up.2=false:=by simpa using hu
        exact ⟨fun e1=>⟨h0,fun k a b c' d=>(af hu' k a b c').elim,fun k a b c' d=>by have:=hdn hlo k a b c' d;subst this;exact ⟨h1,e1⟩,fun j k a b c' d e f g q=>(af hu' k b d f).elim⟩,fun b=>(b.dn _ n1 n2 n3 n4).2⟩
  · have ac:lo.2=false:=by simpa using hlo
    by_cases hu:up.2=true
    · obtain ⟨m1,m2,m3,m4⟩:=ak hu
      by_cases h2:(lC p c core odd up.1).2=0
      case neg=>exact ⟨false,Ev.bind (jH h i) (Ev.no (fun q=>q h0) (Ev.bind lo1 (Ev.bind aa (Ev.no hlo (Ev.yes hu (Ev.bind (jH h up.1) (Ev.yes h2 (Ev.now _)))))))),wrong,fun b=>(h2 (b.up _ m1 m2 m3 m4).1).elim⟩
      refine ⟨j6 (lC p c core odd i).1 (lC p c core odd up.1).1,Ev.bind (jH h i) (Ev.no (fun q=>q h0) (Ev.bind lo1 (Ev.bind aa (Ev.no hlo (Ev.yes hu (Ev.bind (jH h up.1) (Ev.no (fun q=>q h2) ?_))))))),?_⟩
      · simp only [hah,ai,Option.bind_some]
        cases j6 (lC p c core odd i).1 (lC p c core odd up.1).1 <;> exact Ev.now _
      · exact ⟨fun e2=>⟨h0,fun k a b c' d=>by have:=hup hu k a b c' d;subst this;exact ⟨h2,e2⟩,fun k a b c' d=>(ab ac k a b c').elim,fun j k a b c' d e f g q=>(ab ac j a c' e).elim⟩,fun b=>(b.up _ m1 m2 m3 m4).2⟩
    · have hu':up.2=false:=by simpa using hu
      refine ⟨true,Ev.bind (jH h i) (Ev.no (fun q=>q h0) (Ev.bind lo1 (Ev.bind aa (Ev.no hlo (Ev.no hu ?_))))),fun _=>⟨h0,fun k a b c' d=>(af hu' k a b c').elim,fun k a b c' d=>(ab ac k a b c').elim,fun j k a b c' d e f g q=>(ab ac j a c' e).elim⟩,fun _=>rfl⟩;simp only [hah,ai,aj,Option.bind_some];exact Ev.now _
theorem aeg (hl:core.length≤6000) (hlo:odd.length≤6000):∃ n,Ev (fun k=>gu.f k p c core odd) n∧(pW core odd≤9223372036854775807→n=pW core odd):=by
  have k1:∀ (rest pre:List Gn),odd=pre++rest→∀ x:Int,∃ n,Ev (fun k=>gu.l1 (fun y=>some y) odd (odd.length:Int) k x (pre.length:Int)) n∧(0≤x→x+(rest.map fun g=>(g.f1.length:Int)).sum≤9223372036854775807→n=x+(rest.map fun g=>(g.f1.length:Int)).sum):=by
    intro rest;induction rest with
    | nil =>
      intro pre hp x;have c1:¬ (pre.length:Int)<(odd.length:Int):=by rw [hp];simp
      exact ⟨x,Ev.step (f:=fun _=>some x) (fun k=>by simp only [gu.l1,gu.l1T,decide_eq_true_eq,c1,if_false]) (Ev.now _),fun _ _=>by simp⟩
    | cons g r ih =>
      intro pre hp x;have hlen:pre.length+1≤odd.length:=by rw [hp];simp
      have hrd:gG odd (pre.length:Int)=g:=by rw [hp];simp [gG]
      have c1:(pre.length:Int)<(odd.length:Int):=by omega
      have c2:(0:Int)≤(pre.length:Int):=by omega
      have hw:=nx c1 c2 (by omega);obtain ⟨n,n1,n2⟩:=ih (pre++[g]) (by rw [hp];simp) (wq (x+(g.f1.length:Int)));rw [← len1] at n1;refine ⟨n,Ev.step (fun k=>rfl) ?_,fun h0 h1 => ?_⟩
      · simp only [gu.l1,gu.l1T,decide_eq_true_eq,c1,c2,if_true,hrd,hw]
        exact n1
      · have h2:0≤(r.map fun g=>(g.f1.length:Int)).sum:=su (fun x hx=>by obtain ⟨a,_,rfl⟩:=List.mem_map.1 hx;omega)
        rw [List.map_cons,List.sum_cons] at h1 ⊢;rw [je (by omega) (by omega)] at n2;rw [n2 (by omega) (by omega)];omega
  have k0:∀ (rest pre:List (List Sp)),core=pre++rest→∀ (Y:Nat→Int→Option Int) (x:Int),(∀ x,∃ n,Ev (fun k=>Y k x) n∧(0≤x→x+(odd.map fun g=>(g.f1.length:Int)).sum≤9223372036854775807→n=x+(odd.map fun g=>(g.f1.length:Int)).sum)) →
      ∃ n,Ev (fun k=>gu.l0 (Y k) core (core.length:Int) k x (pre.length:Int)) n∧(0≤x→x+(rest.map fun l=>(l.length:Int)).sum+(odd.map fun g=>(g.f1.length:Int)).sum≤9223372036854775807→n=x+(rest.map fun l=>(l.length:Int)).sum+(odd.map fun g=>(g.f1.length:Int)).sum):=by
    intro rest;induction rest with
    | nil =>
      intro pre hp Y x hY;obtain ⟨n,n1,n2⟩:=hY x;have c1:¬ (pre.length:Int)<(core.length:Int):=by rw [hp];simp
      refine ⟨n,Ev.step (fun k=>rfl) ?_,fun h0 h1=>by simp at h1 ⊢;exact n2 h0 h1⟩;simp only [gu.l0,gu.l0T,decide_eq_true_eq,c1,if_false];exact Ev.shift n1
    | cons l r ih =>
      intro pre hp Y x hY;have hlen:pre.length+1≤core.length:=by rw [hp];simp
      have hrd:gL core (pre.length:Int)=l:=by rw [hp];simp [gL]
      have c1:(pre.length:Int)<(core.length:Int):=by omega
      have c2:(0:Int)≤(pre.length:Int):=by omega
      have hw:=nx c1 c2 (by omega);obtain ⟨n,n1,n2⟩:=ih (pre++[l]) (by rw [hp];simp) (fun k=>Y (k+1)) (wq (x+(l.length:Int))) (fun x=>let ⟨n,a,b⟩:=hY x;⟨n,Ev.shift a,b⟩);rw [← len1] at n1;refine ⟨n,Ev.step (fun k=>rfl) ?_,fun h0 h1 => ?_⟩
      · simp only [gu.l0,gu.l0T,decide_eq_true_eq,c1,c2,if_true,hrd,hw]
        exact n1
      · have h2:0≤(r.map fun l=>(l.length:Int)).sum:=su (fun x hx=>by obtain ⟨a,_,rfl⟩:=List.mem_map.1 hx;omega)
        have h3:0≤(odd.map fun g=>(g.f1.length:Int)).sum:=su (fun x hx=>by obtain ⟨a,_,rfl⟩:=List.mem_map.1 hx;omega);rw [List.map_cons,List.sum_cons] at h1 ⊢;rw [je (by omega) (by omega)] at n2;rw [n2 (by omega) (by omega)];omega
  obtain ⟨n,n1,n2⟩:=k0 core [] rfl (fun k y=>gu.l1 (fun y=>some y) odd (odd.length:Int) k y 0) 0 (fun x=>k1 odd [] rfl x);refine ⟨n,n1,fun h => ?_⟩;unfold pW at h ⊢;rw [n2 (by omega) (by omega)];omega
theorem abk (m:MF core odd) (hl:core.length≤6000) (hlo:odd.length≤6000):∃ n,(Ev (fun k=>gu.f k p c core odd) n∧(pW core odd≤9223372036854775807→n=pW core odd))∧∃ e,Ev (fun k=>gq.f k p c core odd) e∧(e=0∨e=3∨e=50)∧(e=3↔n>60000)∧(e=0↔n≤60000∧GR p c core odd):=by
  obtain ⟨n,n1,n2⟩:=aeg (p:=p) (c:=c) hl hlo;refine ⟨n,⟨n1,n2⟩,?_⟩;obtain ⟨sh,ab,ac⟩:=acK (p:=p) (c:=c) m hl hlo;have z1:¬ decide ((core.length:Int)>6000)=true:=by simp;omega
  have z2:¬ decide ((odd.length:Int)>6000)=true:=by simp;omega
  simp only [gq.f,gq.l0];by_cases hn:n>60000
  · exact ⟨3,Ev.no z1 (Ev.no z2 (Ev.bind n1 (Ev.yes (by simpa using hn) (Ev.now _)))),.inr (.inl rfl),⟨fun _=>hn,fun _=>rfl⟩,⟨fun e=>by omega,fun ⟨e,_⟩=>by omega⟩⟩
  have z3:¬ decide (n>60000)=true:=by simpa using hn
  have bad:∀ {q:Prop},¬ q→(50:Int)=0∨(50:Int)=3∨(50:Int)=50∧True→((50:Int)=0∨(50:Int)=3∨(50:Int)=50)∧((50:Int)=3↔n>60000)∧((50:Int)=0↔n≤60000∧q):=fun hq _=>⟨.inr (.inr rfl),⟨fun e=>by omega,fun e=>by omega⟩,⟨fun e=>by omega,fun ⟨_,e⟩=>(hq e).elim⟩⟩;by_cases hs:sh=true
  case neg=>exact ⟨50,Ev.no z1 (Ev.no z2 (Ev.bind n1 (Ev.no z3 (Ev.bind ab (Ev.yes (by simpa using hs) (Ev.now _)))))),bad (fun q=>hs (ac.2 q.s)) (.inr (.inr ⟨rfl,trivial⟩))⟩
  have aa:=ac.1 hs;obtain ⟨tu,af,ah⟩:=acL aa;by_cases ht:tu=true
  case neg=>exact ⟨50,Ev.no z1 (Ev.no z2 (Ev.bind n1 (Ev.no z3 (Ev.bind ab (Ev.no (by simp [hs]) (Ev.bind af (Ev.yes (by simpa using ht) (Ev.now _)))))))),bad (fun q=>ht (ah.2 q.t)) (.inr (.inr ⟨rfl,trivial⟩))⟩
  have ai:=ah.1 ht;have loop:∀ (rest pre:List Gn),odd=pre++rest→∃ e:Int,Ev (fun k=>gq.l1 (some (50:Int)) (some (0:Int)) odd (odd.length:Int) p c core odd k (pre.length:Int)) e∧(e=0∨e=50)∧(e=0↔∀ g∈rest,Bes p c core odd g.f0):=by
    intro rest;induction rest with
    | nil =>
      intro pre hp;have c1:¬ (pre.length:Int)<(odd.length:Int):=by rw [hp];simp
      exact ⟨0,Ev.step (f:=fun _=>some 0) (fun k=>by simp only [gq.l1,gq.l1T,decide_eq_true_eq,c1,if_false]) (Ev.now _),.inl rfl,by simp⟩
    | cons g r ih =>
      intro pre hp;have hlen:pre.length+1≤odd.length:=by rw [hp];simp
      have hrd:gG odd (pre.length:Int)=g:=by rw [hp];simp [gG]
      have c1:(pre.length:Int)<(odd.length:Int):=by omega
      have c2:(0:Int)≤(pre.length:Int):=by omega
      have hw:=nx c1 c2 (by omega);obtain ⟨b,b1,b2⟩:=abj aa g.f0 (aa.hidx _ (by rw [hp];simp));by_cases hb:b=true
      · obtain ⟨e,e1,e2,e3⟩:=ih (pre++[g]) (by rw [hp];simp)
        rw [← len1] at e1;refine ⟨e,Ev.step (fun k=>rfl) ?_,e2,by simp [e3,b2.1 hb]⟩;simp only [gq.l1,gq.l1T,decide_eq_true_eq,c1,c2,if_true,hrd,hw];exact Ev.bind b1 (Ev.no (by simp [hb]) e1)
      · refine ⟨50,Ev.step (fun k=>rfl) ?_,.inr rfl,(fun e=>by omega),fun q=>(hb (b2.2 (q g (by simp)))).elim⟩
        simp only [gq.l1,gq.l1T,decide_eq_true_eq,c1,c2,if_true,hrd,hw];exact Ev.bind b1 (Ev.yes (by simpa using hb) (Ev.now _))
  obtain ⟨e,e1,e2,e3⟩:=loop odd [] rfl;refine ⟨e,Ev.no z1 (Ev.no z2 (Ev.bind n1 (Ev.no z3 (Ev.bind ab (Ev.no (by simp [hs]) (Ev.bind af (Ev.no (by simp [ht]) e1))))))),by omega,⟨fun q=>by omega,fun q=>by omega⟩,fun q=>⟨by omega,aa,ai,e3.1 q⟩,fun q=>e3.2 q.2.b⟩
end Go.Proofs.YtongeknogcboiaaGreat.Q
namespace Go.Proofs.YtongeknogcboiaaGreat.Q
set_option linter.unusedVariables false
set_option linter.unusedSimpArgs false
open Go.RowKit Go.Proofs.YtongeknogcboiaaGreatW.fP Go.Proofs.YtongeknogcboiaaGreatW.iD M R P
section
variable {p c:Int} {core:List (List Sp)} {odd:List Gn} {γ:Type}
def sw:List Gn→Int→Int
  | [],_=>0
  | g :: r,i=>(if g.f0=i then 1 else 0)+sw r i
theorem vV (m:List (Int × Int)) (a v b:Int):nR (sQ m a v) b=if a=b then v else nR m b:=by
  induction m with
  | nil=>simp [sQ,nR]
  | cons q r ih =>
    obtain ⟨x,y⟩:=q;simp only [sQ];by_cases h:x=a
    · subst h
      rw [if_pos rfl];simp only [nR];by_cases g:x=b <;> simp [g]
    · rw [if_neg h]
      simp only [nR,ih];by_cases g:x=b
      · subst g
        rw [if_pos rfl,if_pos rfl,if_neg (fun e=>h e.symm)]
      · simp [g]
theorem xq (l:List Gn) (i:Int):0≤sw l i∧sw l i≤l.length:=by
  induction l with
  | nil=>simp [sw]
  | cons g r ih=>simp only [sw,List.length_cons];split <;> omega
theorem vW (l:List Gn) (g:Gn) (i:Int):sw (l++[g]) i=sw l i+if g.f0=i then 1 else 0:=by
  induction l with
  | nil=>simp [sw]
  | cons z r ih=>simp only [List.cons_append,sw,ih];omega
theorem vX (l:List Gn) (i:Int):sw l i=0↔jI l i=none:=by
  induction l with
  | nil=>simp [sw,jI]
  | cons g r ih =>
    simp only [sw,jI];have:=xq r i;by_cases h:g.f0=i
    · rw [if_pos h,if_pos h];constructor
      · intro e;omega
      · intro e;cases e
    · rw [if_neg h,if_neg h,Int.zero_add];exact ih
end
variable [Inhabited WT]
variable {p c:Int} {core:List (List Sp)} {odd:List Gn} {γ:Type}
theorem afk (x b T p:Int) (hT : -1099511627777≤T∧T≤1099511627777) (hb : -1099511627776≤b∧b≤1099511627776) (hp:0<p∧p≤1099511627776):Ev (fun k=>jU.f k x b T p) (-((b - T) / p)):=by
  unfold jU.f;obtain ⟨a1,a2⟩:=aa4 (b - T) p 2199023255554 (by omega) (by omega) (by omega) (by omega);rw [je (n:=b - T) (by omega) (by omega)];refine Ev.bind (uj (b - T) p (by omega) (by omega)) ?_;rw [je (n:=0 - (b - T) / p) (by omega) (by omega),Int.zero_sub];exact Ev.now _
theorem uq (k:Nat) {l:List Sp} (h:SL (-1099511627776) 1099511627776 l):iE.f k l=some (⟨if l=[] then 0 else kZ l,if l=[] then 0 else lu l⟩,decide (l≠[])):=by
  rw [afi k l (by have:=h.aa3;omega),acG];by_cases hz:l=[] <;> simp [hz]
theorem acM (h:SF p c core odd) (T:Int) (hT : -1099511627777≤T∧T≤1099511627777):∃ r,PlU p c core T r∧∀ (X:Nat→Int→Bool→Option γ) (v:γ),Ev (fun k=>X k r.1 r.2) v →
    Ev (fun k=>fI.l0 (X k) T core (core.length:Int) p c k 0 false 0) v:=by
  have hc:=h.hc;have hl:=h.hl;have loop:∀ (d n:Nat) (a:Int) (ok:Bool),core.length - n=d→n≤core.length →
      (ok=true→∃ j,∃ hj:j<core.length,core[j]≠[]∧a=upI T p c core[j] j)→(ok=true→∀ j (hj:j<core.length),j<n→core[j]≠[]→a≤upI T p c core[j] j)→(ok=false→a=0∧∀ j (hj:j<core.length),j<n→core[j]=[]) →
      ∃ r,PlU p c core T r∧∀ (X:Nat→Int→Bool→Option γ) (v:γ),Ev (fun k=>X k r.1 r.2) v→Ev (fun k=>fI.l0 (X k) T core (core.length:Int) p c k a ok (n:Int)) v:=by
    intro d;induction d with
    | zero =>
      intro n a ok hd hn i1 i2 i3;refine ⟨(a,ok),?_,fun X v hX=>Ev.step (fun k=>rfl) ?_⟩
      · cases ok with
        | true =>
          obtain ⟨j,hj,hne,rfl⟩:=i1 rfl;obtain ⟨e1,e2⟩:=vS h (-((lu core[j] - T) / p)) j hj;have hne':iM c core (upI T p c core[j] j)≠[]:=by unfold upI;rw [e1];exact hne
          obtain ⟨b1,b2,b3,b4⟩:=aa6 h T hT hj hne;have e3:upI T p c core[j] j % c=j:=(aec _ c j (by omega) (by omega)).2;have e4:iM c core (upI T p c core[j] j)=core[j]:=e1;refine ⟨fun _=>⟨hne',(ac3 h T hne').2 ?_,fun m hm ac => ?_⟩,(fun e=>by cases e),(by simp only [upI];omega),(by simp only [upI];omega)⟩
          · simp only [e3,e4];exact Int.le_refl _
          · obtain ⟨_,_,i,hi,f1,f2⟩:=nN h hm
            have g1:=(ac3 h T hm).1 ac;rw [f1,f2] at g1;have:=i2 rfl i hi (by omega) (by rw [← f2];exact hm);simp only;omega
        | false =>
          obtain ⟨rfl,hz⟩:=i3 rfl;refine ⟨(fun e=>by cases e),(fun _ m=>Classical.byContradiction fun hm => ?_),by simp,by simp⟩;obtain ⟨_,_,i,hi,f1,f2⟩:=nN h hm;exact hm (by rw [f2];exact hz i hi (by omega))
      · have c1:¬ (n:Int)<(core.length:Int):=by omega
        simp only [fI.l0,fI.l0T,decide_eq_true_eq,c1,if_false];exact Ev.shift hX
    | succ d ih =>
      intro n a ok hd hn i1 i2 i3;have hlt:n<core.length:=by omega
      have hw:wq ((n:Int)+1)=((n+1:Nat):Int):=by rw [je (by omega) (by omega)];simp
      have c1:(n:Int)<(core.length:Int):=by omega
      have c2:(0:Int)≤(n:Int):=by omega
      have ab:=h.hcore _ (List.getElem_mem hlt);have hh:=fun k=>uq k ab;by_cases hz:core[n]=[]
      · obtain ⟨r,r2,r1⟩:=ih (n+1) a ok (by omega) (by omega) i1 (fun e j hj hjn hne=>by
          rcases Nat.lt_or_ge j n with g | g
          · exact i2 e j hj g hne
          · have:j=n:=by omega
            subst this;exact absurd hz hne) (fun e=>⟨(i3 e).1,fun j hj hjn=>by
          rcases Nat.lt_or_ge j n with g | g
          · exact (i3 e).2 j hj g
          · have:j=n:=by omega
            subst this;exact hz⟩)
        refine ⟨r,r2,fun X v hX=>Ev.step (fun k=>rfl) ?_⟩;have hh':∀ k,iE.f k core[n]=some (⟨0,0⟩,false):=fun k=>by rw [hh k];simp [hz]
        simp only [fI.l0,fI.l0T,decide_eq_true_eq,c1,c2,if_true,rdL core n hlt,hh',Option.bind_some,hw];exact Ev.yes (by simp) (r1 (fun k=>X (k+1)) v (Ev.shift hX))
      · obtain ⟨b1,b2,b3,b4⟩:=aa6 h T hT hlt hz
        have af:=ab.ends hz;have hp:p≠0:=fun e=>by have:=h.hz.2 e;omega
        have hp0:=h.hp0;have hp1:=h.hp1;have aa:=afk (kZ core[n]) (lu core[n]) T p hT (by omega) (by omega);have eu : -((lu core[n] - T) / p)*c+n=upI T p c core[n] n:=rfl;generalize hz1 : -((lu core[n] - T) / p)=z at *;have w1:wq (z*c)=z*c:=je (by omega) (by omega);have w2:wq (z*c+n)=upI T p c core[n] n:=by rw [← eu];exact je (by omega) (by omega)
        have hub : -13194139533336000≤upI T p c core[n] n∧upI T p c core[n] n≤13194139533336000:=by rw [← eu];omega
        have take:(ok=true→upI T p c core[n] n≤a)→∃ r,PlU p c core T r∧∀ (X:Nat→Int→Bool→Option γ) (v:γ),Ev (fun k=>X k r.1 r.2) v→Ev (fun k=>fI.l0 (X k) T core (core.length:Int) p c k (upI T p c core[n] n) true ((n+1:Nat):Int)) v:=fun hle=>by
          refine ih (n+1) _ true (by omega) (by omega) (fun _=>⟨n,hlt,hz,rfl⟩) (fun _ j hj hjn hne => ?_) (fun e=>by cases e);rcases Nat.lt_or_ge j n with g | g
          · cases ok with
            | true=>have:=i2 rfl j hj g hne;have:=hle rfl;omega
            | false=>exact absurd ((i3 rfl).2 j hj g) hne
          · have:j=n:=by omega
            subst this;exact Int.le_refl _
        simp only [hz,if_false] at hh;by_cases hok:ok=true
        · obtain ⟨j,hj,hne,ea⟩:=i1 hok
          have hab : -13194139533336000≤a∧a≤13194139533336000:=by
            obtain ⟨c1,c2,c3,c4⟩:=aa6 h T hT hj hne;rw [ea];unfold upI;omega
          have w3:wq (wq (upI T p c core[n] n - a)*1)=upI T p c core[n] n - a:=by rw [Int.mul_one,je (n:=upI T p c core[n] n - a) (by omega) (by omega),je (by omega) (by omega)]
          by_cases hlt2:upI T p c core[n] n - a<0
          · obtain ⟨r,r2,r1⟩:=take (fun _=>by omega)
            refine ⟨r,r2,fun X v hX=>Ev.step (fun k=>rfl) ?_⟩;simp only [fI.l0,fI.l0T,decide_eq_true_eq,c1,c2,if_true,rdL core n hlt,hh,Option.bind_some,hw];refine Ev.no (by simp [hz]) (Ev.bind aa (Ev.no (by simp [hok]) ?_));rw [w1,w2,w3];exact Ev.yes hlt2 (r1 (fun k=>X (k+1)) v (Ev.shift hX))
          · obtain ⟨r,r2,r1⟩:=ih (n+1) a ok (by omega) (by omega) i1 (fun e j hj hjn hne=>by
              rcases Nat.lt_or_ge j n with g | g
              · exact i2 e j hj g hne
              · have:j=n:=by omega
                subst this;omega) (fun e=>by rw [hok] at e;cases e)
            refine ⟨r,r2,fun X v hX=>Ev.step (fun k=>rfl) ?_⟩;simp only [fI.l0,fI.l0T,decide_eq_true_eq,c1,c2,if_true,rdL core n hlt,hh,Option.bind_some,hw];refine Ev.no (by simp [hz]) (Ev.bind aa (Ev.no (by simp [hok]) ?_));rw [w1,w2,w3];exact Ev.no hlt2 (r1 (fun k=>X (k+1)) v (Ev.shift hX))
        · obtain ⟨r,r2,r1⟩:=take (fun e=>absurd e hok)
          refine ⟨r,r2,fun X v hX=>Ev.step (fun k=>rfl) ?_⟩;simp only [fI.l0,fI.l0T,decide_eq_true_eq,c1,c2,if_true,rdL core n hlt,hh,Option.bind_some,hw];refine Ev.no (by simp [hz]) (Ev.bind aa (Ev.yes (by simpa using hok) ?_));rw [w1,w2];exact r1 (fun k=>X (k+1)) v (Ev.shift hX)
  exact loop _ 0 0 false rfl (by omega) (fun e=>by cases e) (fun e=>by cases e) (fun _=>⟨rfl,fun j hj hjn=>by omega⟩)
theorem afl (ho:odd.length≤6000):∀ (rest pre:List Gn),odd=pre++rest→∀ (m:List (Int × Int)),(∀ i,nR m i=sw pre i)→∃ m',(∀ i,nR m' i=sw odd i)∧∀ (X:Nat→List (Int × Int)→Option γ) (v:γ),Ev (fun k=>X k m') v →
    Ev (fun k=>fI.l2 (X k) odd (odd.length:Int) k (pre.length:Int) m) v:=by
  intro rest;induction rest with
  | nil =>
    intro pre hp m hm;refine ⟨m,fun i=>by rw [hm,hp,List.append_nil],fun X v hX=>Ev.step (fun k=>rfl) ?_⟩;have c1:¬ (pre.length:Int)<(odd.length:Int):=by rw [hp];simp
    simp only [fI.l2,fI.l2T,decide_eq_true_eq,c1,if_false];exact Ev.shift hX
  | cons g r ih =>
    intro pre hp m hm;have hlen:pre.length+1≤odd.length:=by rw [hp];simp
    have hrd:gG odd (pre.length:Int)=g:=by rw [hp];simp [gG]
    have c1:(pre.length:Int)<(odd.length:Int):=by omega
    have c2:(0:Int)≤(pre.length:Int):=by omega
    have hw:=nx c1 c2 (by omega);have hb:=xq pre g.f0;obtain ⟨m',h1,h2⟩:=ih (pre++[g]) (by rw [hp];simp) (sQ m g.f0 (wq (nR m g.f0+1))) (fun i=>by
      rw [vV,hm,vW,je (by omega) (by omega),hm];by_cases e:g.f0=i
      · subst e;simp
      · simp [e])
    refine ⟨m',h1,fun X v hX=>Ev.step (fun k=>rfl) ?_⟩;have:=h2 (fun k=>X (k+1)) v (Ev.shift hX);rw [← len1] at this;simp only [fI.l2,fI.l2T,decide_eq_true_eq,c1,c2,if_true,hrd,hw];exact this
theorem uw (h:SF p c core odd) (t:TF p core) (T:Int) (hT : -1099511627777≤T) (m:List (Int × Int)) (hm:∀ i,nR m i=sw odd i):∀ (d:Nat) (i:Int) (ok:Bool) (b:Int),
    (ok=true→(1099511627777 - i).toNat≤d)→(ok=true→inR i∧iM c core i≠[]∧T≤gHi p c core [] i) →
    (∀ m,Ex p c core [] m→jI odd m=none→T≤gHi p c core [] m→ok=true∧i≤m)→0≤b→b≤2 →
    (1≤b→ok=true→∀ m,i≤m→iM c core m≠[] → -1099511627776≤gLo p c core [] m) →
    (2≤b→ok=true→∀ m,i≤m→iM c core m≠[]→1099511627776<gLo p c core [] m) →
    ∃ r,PnU p c core odd T r∧∀ (X0:Nat→Int→Option γ) (X1:Nat→Option γ) (v:γ),Ev (fun k=>if r.2=true then X0 k r.1 else X1 k) v →
      Ev (fun k=>fI.l3 (X0 k) (X1 k) p c core m k i ok b) v:=by
  have cnt:∀ i,nR m i=0↔jI odd i=none:=fun i=>by rw [hm,vX]
  have stop:∀ (i b:Int) (X0:Nat→Int→Option γ) (X1:Nat→Option γ) (v:γ),Ev (fun k=>if false=true then X0 k 0 else X1 k) v→Ev (fun k=>fI.l3 (X0 k) (X1 k) p c core m k i false b) v:=fun i b X0 X1 v hX=>by
    refine Ev.step (fun k=>rfl) ?_;simp only [fI.l3,fI.l3T,Bool.false_eq_true,if_false] at hX ⊢;exact Ev.shift hX
  intro d;induction d with
  | zero =>
    intro i ok b hd hA hB h0 h2 hC hD;have hok:ok=false:=by
      cases ok with
      | true=>have:=hA rfl;have:=this.1;unfold inR at this;have:=hd rfl;omega
      | false=>rfl
    subst hok;exact ⟨(0,false),⟨(fun e=>by cases e),fun _=>⟨rfl,fun m m1 m2 m3=>by cases (hB m m1 m2 m3).1⟩⟩,stop i b⟩
  | succ d ih =>
    intro i ok b hd hA hB h0 h2 hC hD;cases ok with
    | false=>exact ⟨(0,false),⟨(fun e=>by cases e),fun _=>⟨rfl,fun m m1 m2 m3=>by cases (hB m m1 m2 m3).1⟩⟩,stop i b⟩
    | true =>
      obtain ⟨a1,a2,a3⟩:=hA rfl;have hd:=hd rfl;by_cases hb:b<2
      · obtain ⟨n,n1,n2⟩:=nC h.lW i (by unfold inR at a1;omega)
        have aa:=jH h.lW i;have next:∀ (b':Int),0≤b'→b'≤2→(∀ m,Ex p c core [] m→jI odd m=none→m≠i) →
            (1≤b'→∀ m,i<m→iM c core m≠[] → -1099511627776≤gLo p c core [] m)→(2≤b'→∀ m,i<m→iM c core m≠[]→1099511627776<gLo p c core [] m) →
            ∃ r,PnU p c core odd T r∧∀ (X0:Nat→Int→Option γ) (X1:Nat→Option γ) (v:γ),Ev (fun k=>if r.2=true then X0 k r.1 else X1 k) v →
              Ev (fun k=>fI.l3 (X0 k) (X1 k) p c core m k n.1 n.2 b') v:=by
          intro b' g0 g2 gi gC gD;unfold inR at a1;refine ih n.1 n.2 b' (fun e => ?_) (fun e => ?_) (fun m m1 m2 m3 => ?_) g0 g2 (fun e1 e2 m hm => ?_) (fun e1 e2 m hm => ?_)
          · have:=(n2.1 e).1;omega
          · obtain ⟨q1,q2,q3,q4⟩:=n2.1 e
            have:=vT h t (i:=i) (k:=n.1) (by omega) a2 q3;have:=aey h q3;exact ⟨q2,q3,by omega⟩
          · have g3:=(hB m m1 m2 m3).2
            have g4:=gi m m1 m2;have g5:=m1.r;cases hn:n.2 with
            | true =>
              refine ⟨rfl,Classical.byContradiction fun hx => ?_⟩;unfold inR at g5;exact m1.n ((n2.1 hn).2.2.2 m (by omega) (by omega))
            | false =>
              exact absurd ((n2.2 hn).2 m (by unfold inR at g5;omega) g5) m1.n
          · have:=(n2.1 e2).1;exact gC e1 m (by omega)
          · have:=(n2.1 e2).1;exact gD e1 m (by omega)
        by_cases hx:Ex p c core [] i
        · rw [h.lW.j4 hx] at aa
          by_cases ho:jI odd i=none
          · refine ⟨(i,true),⟨fun _=>⟨hx,ho,a3,fun m m1 m2 m3=>(hB m m1 m2 m3).2⟩,fun e=>by cases e⟩,fun X0 X1 v hX=>Ev.step (fun k=>rfl) ?_⟩
            simp only [fI.l3,fI.l3T,decide_eq_true_eq,hb,if_true];exact Ev.bind aa (Ev.no (by simp) (Ev.yes ((cnt i).2 ho) (by simpa using Ev.shift hX)))
          · obtain ⟨r,r2,r1⟩:=next b h0 h2 (fun m _ m2 e=>ho (by rw [← e];exact m2)) (fun e m hm=>hC e rfl m (by omega)) (fun e m hm=>hD e rfl m (by omega))
            refine ⟨r,r2,fun X0 X1 v hX=>Ev.step (fun k=>rfl) ?_⟩;simp only [fI.l3,fI.l3T,decide_eq_true_eq,hb,if_true];exact Ev.bind aa (Ev.no (by simp) (Ev.no (fun e=>ho ((cnt i).1 e)) (Ev.bind n1 (r1 (fun k=>X0 (k+1)) (fun k=>X1 (k+1)) v (Ev.shift hX)))))
        · rw [h.lW.tZ a2 hx] at aa
          have hw:wq (b+1)=b+1:=je (by omega) (by omega);obtain ⟨r,r2,r1⟩:=next (b+1) (by omega) (by omega) (fun m m1 _ e=>hx (by rw [← e];exact m1)) (fun _ m hm hmn=>by
              have:=vT h t hm a2 hmn;omega) (fun e m hm hmn=>by
              have q1:=vT h t hm a2 hmn;have q2:=hC (by omega) rfl i (Int.le_refl _) a2;refine Classical.byContradiction fun hq=>hx ⟨a1,a2,q2,?_⟩;omega)
          refine ⟨r,r2,fun X0 X1 v hX=>Ev.step (fun k=>rfl) ?_⟩;simp only [fI.l3,fI.l3T,decide_eq_true_eq,hb,if_true,hw];exact Ev.bind aa (Ev.yes (by simp) (Ev.bind n1 (r1 (fun k=>X0 (k+1)) (fun k=>X1 (k+1)) v (Ev.shift hX))))
      · refine ⟨(0,false),⟨(fun e=>by cases e),fun _=>⟨rfl,fun m m1 m2 m3 => ?_⟩⟩,fun X0 X1 v hX=>Ev.step (fun k=>rfl) ?_⟩
        · have q1:=hD (by omega) rfl m (hB m m1 m2 m3).2 m1.n
          have q2:=aey h m1.n;have:=m1.hi;omega
        · simp only [fI.l3,fI.l3T,decide_eq_true_eq,hb,if_true,if_false]
          exact Ev.shift hX
theorem qV (h:SF p c core odd) (T:Int):∀ (d n:Nat) (a:Int) (ok:Bool),odd.length - n=d→n≤odd.length →
    (ok=true→Ex p c core odd a∧T≤gHi p c core odd a)→(∀ m,Ex p c core odd m→T≤gHi p c core odd m→(jI odd m=none∨∃ j,∃ hj:j<odd.length,j<n∧odd[j].f0=m)→ok=true∧a≤m)→(ok=false→a=0) →
    ∃ r,Ev (fun k=>fI.l1 (fun y z=>some (y,z)) T odd (odd.length:Int) k a ok (n:Int)) r∧FrU p c core odd T r:=by
  have hlo:=h.hlo;intro d;induction d with
  | zero =>
    intro n a ok hd hn i1 i2 i3;have c1:¬ (n:Int)<(odd.length:Int):=by omega
    refine ⟨(a,ok),Ev.step (f:=fun _=>some (a,ok)) (fun k=>by simp only [fI.l1,fI.l1T,decide_eq_true_eq,c1,if_false]) (Ev.now _),?_⟩;have all:∀ m,jI odd m=none∨∃ j,∃ hj:j<odd.length,j<n∧odd[j].f0=m:=fun m=>by
      rcases ac5 (odd:=odd) (m:=m) with g | ⟨j,hj,g⟩
      · exact .inl g
      · exact .inr ⟨j,hj,by omega,g⟩
    cases ok with
    | true=>exact ⟨fun _=>⟨(i1 rfl).1,(i1 rfl).2,fun m m1 m2=>(i2 m m1 m2 (all m)).2⟩,fun e=>by cases e⟩
    | false=>exact ⟨(fun e=>by cases e),fun _=>⟨i3 rfl,fun m m1 m2=>by cases (i2 m m1 m2 (all m)).1⟩⟩
  | succ d ih =>
    intro n a ok hd hn i1 i2 i3;have hlt:n<odd.length:=by omega
    have hw:wq ((n:Int)+1)=((n+1:Nat):Int):=by rw [je (by omega) (by omega)];simp
    have c1:(n:Int)<(odd.length:Int):=by omega
    have c2:(0:Int)≤(n:Int):=by omega
    have aa:=h.hodd _ (List.getElem_mem hlt);have hh:=fun k=>uq k aa;obtain ⟨e1,e2,e3⟩:=aa7 h hlt;have skip:(odd[n].f1=[]∨¬ T≤lu odd[n].f1∨ok=true∧a≤odd[n].f0)→∃ r,Ev (fun k=>fI.l1 (fun y z=>some (y,z)) T odd (odd.length:Int) k a ok ((n+1:Nat):Int)) r∧FrU p c core odd T r:=fun hs=>by
      refine ih (n+1) a ok (by omega) (by omega) i1 (fun m m1 m2 m3 => ?_) i3;rcases m3 with g | ⟨j,hj,g,g2⟩
      · exact i2 m m1 m2 (.inl g)
      · rcases Nat.lt_or_ge j n with g3 | g3
        · exact i2 m m1 m2 (.inr ⟨j,hj,g3,g2⟩)
        · have:j=n:=by omega
          subst this;subst g2;rcases hs with hs | hs | hs
          · exact absurd (by rw [e1];exact hs) m1.n
          · exact absurd (by rw [← e3];exact m2) hs
          · exact hs
    by_cases hz:odd[n].f1=[]
    · obtain ⟨r,r1,r2⟩:=skip (.inl hz)
      refine ⟨r,Ev.step (fun k=>rfl) ?_,r2⟩;have hh':∀ k,iE.f k odd[n].f1=some (⟨0,0⟩,false):=fun k=>by rw [hh k];simp [hz]
      simp only [fI.l1,fI.l1T,decide_eq_true_eq,c1,c2,if_true,rdG odd n hlt,hh',Option.bind_some,hw];exact Ev.no (by simp) r1
    · have hh':∀ k,iE.f k odd[n].f1=some (⟨kZ odd[n].f1,lu odd[n].f1⟩,true):=fun k=>by rw [hh k];simp [hz]
      by_cases hso:T≤lu odd[n].f1
      · have take:(ok=true→odd[n].f0≤a)→∃ r,Ev (fun k=>fI.l1 (fun y z=>some (y,z)) T odd (odd.length:Int) k odd[n].f0 true ((n+1:Nat):Int)) r∧FrU p c core odd T r:=fun hle=>by
          refine ih (n+1) odd[n].f0 true (by omega) (by omega) (fun _=>⟨ac4 h hlt hz,by rw [e3];exact hso⟩) (fun m m1 m2 m3=>⟨rfl,?_⟩) (fun e=>by cases e);rcases m3 with g | ⟨j,hj,g,g2⟩
          · obtain ⟨q1,q2⟩:=i2 m m1 m2 (.inl g);have:=hle q1;omega
          · rcases Nat.lt_or_ge j n with g3 | g3
            · obtain ⟨q1,q2⟩:=i2 m m1 m2 (.inr ⟨j,hj,g3,g2⟩);have:=hle q1;omega
            · have:j=n:=by omega
              subst this;subst g2;exact Int.le_refl _
        by_cases hok:ok=true
        · have hr1:=(i1 hok).1.r
          have hr2:=h.hidx _ (List.getElem_mem hlt);unfold inR at hr1 hr2;have w3:wq (wq (odd[n].f0 - a)*1)=odd[n].f0 - a:=by rw [Int.mul_one,je (n:=odd[n].f0 - a) (by omega) (by omega),je (by omega) (by omega)]
          by_cases hlt2:odd[n].f0 - a<0
          · obtain ⟨r,r1,r2⟩:=take (fun _=>by omega)
            refine ⟨r,Ev.step (fun k=>rfl) ?_,r2⟩;simp only [fI.l1,fI.l1T,jE.f,decide_eq_true_eq,c1,c2,if_true,rdG odd n hlt,hh',Option.bind_some,hw,w3];exact Ev.yes hso (Ev.no (by simp [hok]) (Ev.yes hlt2 r1))
          · obtain ⟨r,r1,r2⟩:=skip (.inr (.inr ⟨hok,by omega⟩))
            refine ⟨r,Ev.step (fun k=>rfl) ?_,r2⟩;simp only [fI.l1,fI.l1T,jE.f,decide_eq_true_eq,c1,c2,if_true,if_false,rdG odd n hlt,hh',Option.bind_some,hw,w3];exact Ev.yes hso (Ev.no (by simp [hok]) (Ev.no hlt2 r1))
        · obtain ⟨r,r1,r2⟩:=take (fun e=>absurd e hok)
          refine ⟨r,Ev.step (fun k=>rfl) ?_,r2⟩;simp only [fI.l1,fI.l1T,jE.f,decide_eq_true_eq,c1,c2,if_true,rdG odd n hlt,hh',Option.bind_some,hw];exact Ev.yes hso (Ev.yes (by simpa using hok) r1)
      · obtain ⟨r,r1,r2⟩:=skip (.inr (.inl hso))
        refine ⟨r,Ev.step (fun k=>rfl) ?_,r2⟩;simp only [fI.l1,fI.l1T,jE.f,decide_eq_true_eq,c1,c2,if_true,rdG odd n hlt,hh',Option.bind_some,hw];exact Ev.no hso r1
theorem uy (h:FOK p c core odd) (t:Int):∃ r,Ev (fun k=>fI.f k p c core odd t) r∧FrU p c core odd t r:=by
  have hcl:=afh t;have hmm:mx (mn t 1099511627777) (-1099511627777)=cl t:=rfl;have near:∀ a:Int × Bool,PnU p c core odd (cl t) a→∃ r,Ev (fun k=>fI.l1 (fun y z=>some (y,z)) (cl t) odd (odd.length:Int) k a.1 a.2 ((0:Nat):Int)) r∧FrU p c core odd (cl t) r:=fun a a2 =>
    qV h.s (cl t) _ 0 a.1 a.2 rfl (by omega) (fun e=>by
      obtain ⟨q1,q2,q3,q4⟩:=a2.y e;exact ⟨(pE q2).2 q1,by rw [(qU q2).2.2];exact q3⟩) (fun m m1 m2 m3=>by
      rcases m3 with g | ⟨j,hj,g,_⟩
      · have aa:=m2
        rw [(qU g).2.2] at aa;cases ha:a.2 with
        | true=>exact ⟨rfl,(a2.y ha).2.2.2 m ((pE g).1 m1) g aa⟩
        | false=>exact absurd aa ((a2.n ha).2 m ((pE g).1 m1) g)
      · omega) (fun e=>(a2.n e).1)
  have tr:∀ m,Ex p c core odd m→(t≤gHi p c core odd m↔cl t≤gHi p c core odd m):=fun m e=>by
    have:=e.lo;have:=e.hi;have:=h.s.kT e.n;omega
  have fin:∀ r,FrU p c core odd (cl t) r→FrU p c core odd t r:=fun r r2=>⟨fun e=>by
    obtain ⟨q1,q2,q3⟩:=r2.y e;exact ⟨q1,(tr _ q1).2 q2,fun m m1 m2=>q3 m m1 ((tr m m1).1 m2)⟩,fun e=>⟨(r2.n e).1,fun m m1 m2=>(r2.n e).2 m m1 ((tr m m1).1 m2)⟩⟩
  simp only [fI.f,hmm];obtain ⟨a,a2,a1⟩:=acM (γ:=Int × Bool) h.s (cl t) (by omega);have hf:Ev (fun k=>lF.f k) ():=Ev.congr (f:=fun _=>some ()) (fun k=>rfl) (Ev.now _);have b1:=a2.lo;have b2:=a2.hi;cases ha:a.2 with
  | false =>
    obtain ⟨r,r1,r2⟩:=near (0,false) ⟨(fun e=>by cases e),fun _=>⟨rfl,fun m m1 _ _=>m1.n (a2.n ha m)⟩⟩;exact ⟨r,Ev.bind hf (a1 _ r (Ev.yes (by simp [ha]) r1)),fin r r2⟩
  | true =>
    obtain ⟨q1,q2,q3⟩:=a2.y ha;have hw:wq (a.1 - 1)=a.1 - 1:=je (by omega) (by omega);obtain ⟨n,n1,n2⟩:=nC h.s.lW (a.1 - 1) (by omega);obtain ⟨m,m1,m2⟩:=afl (γ:=Int × Bool) (odd:=odd) h.s.hlo odd [] rfl [] (fun i=>by simp [nR,sw]);obtain ⟨s,s2,s1⟩:=uw (γ:=Int × Bool) h.s h.t (cl t) (by omega) m m1 (1099511627777 - n.1).toNat n.1 n.2 0 (fun _=>Nat.le_refl _) (fun e=>by
      obtain ⟨g1,g2,g3,g4⟩:=n2.1 e;refine ⟨g2,g3,?_⟩;rcases Int.lt_trichotomy a.1 n.1 with g | g | g
      · have:=vT h.s h.t g q1 g3
        have:=aey h.s g3;omega
      · rw [← g];exact q2
      · omega) (fun m m1 m2 m3=>by
      have g3:=q3 m m1.n m3;have g5:=m1.r;cases hn:n.2 with
      | true =>
        refine ⟨rfl,Classical.byContradiction fun hx => ?_⟩;unfold inR at g5;exact m1.n ((n2.1 hn).2.2.2 m (by omega) (by omega))
      | false=>exact absurd ((n2.2 hn).2 m (by unfold inR at g5;omega) g5) m1.n) (by omega) (by omega) (fun e=>by omega) (fun e=>by omega)
    obtain ⟨r,r1,r2⟩:=near s s2;refine ⟨r,Ev.bind hf (a1 _ r (Ev.no (by simp [ha]) (m2 _ r ?_))),fin r r2⟩;simp only [hw];refine Ev.bind n1 (s1 (fun k y=>fI.l1 (fun y z=>some (y,z)) (cl t) odd (odd.length:Int) k y true 0) (fun k=>fI.l1 (fun y z=>some (y,z)) (cl t) odd (odd.length:Int) k 0 false 0) r ?_);cases hs:s.2 with
    | true=>rw [hs] at r1;simpa using r1
    | false=>rw [hs,(s2.n hs).1] at r1;simpa using r1
end Go.Proofs.YtongeknogcboiaaGreat.Q
