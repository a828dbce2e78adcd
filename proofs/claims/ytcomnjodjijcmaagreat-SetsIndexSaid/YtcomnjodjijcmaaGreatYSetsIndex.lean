/- The law SetsIndex: it holds at every input that its row reads. No condition of its own. -/
import Derived.Test.YtcomnjodjijcmaaGreatYC19
import Derived.Test.YtcomnjodjijcmaaGreatYC17
import Derived.Test.YtcomnjodjijcmaaGreatRows
import Derived.Test.YtcomnjodjijcmaaGreatYC16
import Derived.WalkKit
import Derived.ProofKit
import Derived.OpenShut
import Derived.ShutString
import Derived.ChangeOld
import Derived.Below
import Derived.SizedLaws
namespace Go.Proofs.YtcomnjodjijcmaaGreat.Q
set_option linter.unusedVariables false
set_option linter.unusedSimpArgs false
open Go.RowKit Go.Proofs.YtcomnjodjijcmaaGreatW.dB Go.Proofs.YtcomnjodjijcmaaGreatW.eO M R P
section
def okL (l:List Sp):Prop:=∀ s∈l,-100000000≤s.f0∧s.f1≤100000000
theorem acs:okL []:=fun s h=>by simp at h
structure NF (A:Fm):Prop where
  cn:cnF A
  gr:grF A
  lc:A.f2.length≤144
  lo:A.f3.length≤16
  hp:A.f0≤10000
  ix:∀ g∈A.f3,-100≤g.f0∧g.f0≤100
  tk:∀ i,-6000≤i→i≤6000→okL (gF A i)
  tb:∀ i,-6000≤i→i≤6000→okL (bF A i)
  ln:∀ i,(gF A i).length≤60
  lb:∀ i,(bF A i).length≤60
theorem SL.tight {lo hi lo' hi':Int}:∀ {l:List Sp},SL lo hi l→(∀ s∈l,lo'≤s.f0∧s.f1≤hi')→SL lo' hi' l
  | [],_,_=>trivial
  | s :: r,⟨h1,h2,h3,h4⟩,h=>⟨(h s (by simp)).1,h2,(h s (by simp)).2,SL.tight h4 (fun t ht=>⟨(SL.ticks h4 ht).1,(h t (by simp [ht])).2⟩)⟩
theorem acu {A:Fm} (h:sfF A) {i:Int} (hk:okL (gF A i)):SL (-1099511627776) 1099511627776 (gF A i):=by
  have:=SL.shift (lo:=0) (fb A.f0 A.f1 A.f3 i) (h.uF i);exact SL.tight this (fun s hs=>by have:=hk s hs;omega)
theorem agK {A:Fm} (h:sfF A) {i:Int} (hk:okL (bF A i)):SL (-1099511627776) 1099511627776 (bF A i):=by
  have e:bF A i=gT A.f0 A.f1 A.f2 [] i:=(oK i).symm;rw [e] at hk ⊢;have:=SL.shift (lo:=0) (fb A.f0 A.f1 [] i) (h.abT.uF i);exact SL.tight this (fun s hs=>by have:=hk s hs;omega)
theorem agL {A:Fm} (h:sfF A) {i:Int} (hr:inR i) (hk:okL (gF A i)):vF A i=(gF A i,0):=by
  unfold vF;rw [nS,if_pos hr];by_cases hn:gT A.f0 A.f1 A.f2 A.f3 i=[]
  · rw [if_pos hn]
    unfold gF;rw [hn]
  · rw [if_neg hn]
    unfold mvT;rw [if_pos]
    · rfl
    · refine List.all_eq_true.2 fun s hs=>rG.2 ?_
      have:=hk s hs;have:=SL.ticks (acu h hk) hs;omega
theorem l5 {i:Int} (h : -100000000≤i∧i≤100000000):inR i:=by unfold inR;omega
theorem NF.v {A:Fm} (h:NF A) {i:Int} (h1 : -6000≤i) (h2:i≤6000):vF A i=(gF A i,0):=agL h.cn.s (l5 (by omega)) (h.tk i h1 h2)
theorem NF.ga {A:Fm} (h:NF A):A.f2≠[]→∃ l∈A.f2,l≠[]:=fun hn=>Classical.byContradiction fun hx=>h.cn.nb hn fun l hl=>Classical.byContradiction fun hl2=>hx ⟨l,hl,hl2⟩
theorem l6 {A B:Fm} (a:NF A) (b:NF B):∀ i∈jr A B,-100≤i∧i≤100:=fun i hi=>by
  rcases xZ.1 hi with ⟨g,hg,rfl⟩ | ⟨g,hg,rfl⟩
  · exact a.ix g hg
  · exact b.ix g hg
theorem afv {A B:Fm} (a:NF A) (b:NF B) (hn:nF A B≤144):0≤tF A B∧tF A B≤1440000:=by
  have p1:=a.cn.s.hp0;have p2:=b.cn.s.hp0;have q1:=a.hp;have q2:=b.hp;unfold tF rt;split
  · omega
  · have hq:rn A.f2.length B.f2.length / A.f2.length≤144:=Nat.le_trans (Nat.div_le_self _ _) hn
    generalize rn A.f2.length B.f2.length / A.f2.length=q at hq;have h1:A.f0*(q:Int)≤10000*(q:Int):=Int.mul_le_mul_of_nonneg_right q1 (by omega);have h2:0≤A.f0*(q:Int):=Int.mul_nonneg p1 (by omega);omega
theorem NF.of {A B:Fm} (a:NF A) (b:NF B) (hn:nF A B≤144):OfH A B:=by
  have t1:=afv a b hn;have t2:=afv b a (by rw [uU];exact hn);have:=a.lo;have:=b.lo;have:=a.hp;have:=b.hp;exact ⟨a.cn.s,b.cn.s,a.ga,b.ga,by omega,by omega,by omega,by omega,by omega,fun i h1 h2 s hs=>by have:=a.tb i (by omega) (by omega) s hs;omega,fun i h1 h2 s hs=>by have:=b.tb i (by omega) (by omega) s hs;omega,by omega⟩
theorem oneOf.ok {D:List Sp→List Sp→List Sp} (h:oneOf D) {P:List Sp→Prop} (h0:P []) {x y:List Sp} (hx:P x) (hy:P y):P (D x y):=by
  rcases h x y with e | e | e
  · rw [e];exact hx
  · rw [e];exact hy
  · rw [e];exact h0
theorem uW {D:List Sp→List Sp→List Sp} (hD:zI D) {A B:Fm} (a:NF A) (b:NF B) (hn:nF A B≤144):lN (gX D A B).f2 (gX D A B).f3≤60000:=by
  have h1:(((gX D A B).f2).map fun l=>(l.length:Int)).sum≤((gX D A B).f2.length:Int)*60:=wM _ 60 (fun l hl=>by
    obtain ⟨i,_,rfl⟩:=List.mem_map.1 hl;have aa:(D (bF A (i:Int)) (bF B (i:Int))).length≤60:=hD.one.ok (P:=fun l=>l.length≤60) (by simp) (a.lb (i:Int)) (b.lb (i:Int));show ((D (bF A (i:Int)) (bF B (i:Int))).length:Int)≤60;omega)
  have h2:(((gX D A B).f3).map fun g=>(g.f1.length:Int)).sum≤((gX D A B).f3.length:Int)*60:=wM _ 60 (fun g hg=>by
    obtain ⟨i,hi,rfl⟩:=List.mem_map.1 hg;have hr:=l6 a b i hi;have e1:=a.v (i:=i) (by omega) (by omega);have e2:=b.v (i:=i) (by omega) (by omega);have aa:(D (gF A i) (gF B i)).length≤60:=hD.one.ok (P:=fun l=>l.length≤60) (by simp) (a.ln i) (b.ln i);show ((D (vF A i).1 (vF B i).1).length:Int)≤60;rw [e1,e2];show ((D (gF A i) (gF B i)).length:Int)≤60;omega)
  have l1:(gX D A B).f2.length=nF A B:=by simp [gX]
  have l2:(gX D A B).f3.length=(jr A B).length:=by simp [gX]
  have:=nT A B;have:=a.lo;have:=b.lo;have e:lN (gX D A B).f2 (gX D A B).f3=(((gX D A B).f2).map fun l=>(l.length:Int)).sum+(((gX D A B).f3).map fun g=>(g.f1.length:Int)).sum:=rfl;rw [e];rw [l1] at h1;rw [l2] at h2;omega
theorem acv {D:List Sp→List Sp→List Sp} (hD:zI D) {A B:Fm} (a:NF A) (b:NF B) (hn:nF A B≤144):sfF (gX D A B):=by
  have t1:=afv a b hn;have l1:(gX D A B).f2.length=nF A B:=by simp [gX]
  have l2:(gX D A B).f3.length=(jr A B).length:=by simp [gX]
  have hil:=nT A B;have:=a.lo;have:=b.lo;refine ⟨by rw [l1];rfl,t1.1,by show tF A B≤_;omega,?_,fun l hl => ?_,fun g hg => ?_,fun g hg => ?_,?_,by omega,by omega⟩
  · show (nF A B:Int)=0↔tF A B=0
    constructor
    · intro h
      obtain ⟨e1,e2⟩:=acp (show rn A.f2.length B.f2.length=0 from by have h:(nF A B:Int)=0:=h;unfold nF at h;omega);unfold tF rt;rw [if_pos e1];exact b.cn.s.hz.1 (by rw [b.cn.s.hc,e2];rfl)
    · intro h
      refine Classical.byContradiction fun hne => ?_;unfold tF rt at h;split at h
      · rename_i e1
        have hb:(B.f2.length:Int)=0:=by rw [← b.cn.s.hc];exact b.cn.s.hz.2 h
        exact hne (by unfold nF rn;rw [if_pos e1];exact hb)
      · rename_i e1
        have hq:1≤rn A.f2.length B.f2.length / A.f2.length:=(Nat.one_le_div_iff (by omega)).2 (Nat.le_of_dvd (by have hne:¬ (nF A B:Int)=0:=hne;unfold nF at hne;omega) (aek e1));have hp:A.f0≠0:=fun e=>e1 (by have:=a.cn.s.hz.2 e;rw [a.cn.s.hc] at this;omega);rcases Int.mul_eq_zero.1 h with e | e
        · exact hp e
        · omega
  · obtain ⟨i,hi,rfl⟩:=List.mem_map.1 hl
    have hi':=List.mem_range.1 hi;exact hD.one.ok (P:=fun l=>SL (-1099511627776) 1099511627776 l) trivial (agK a.cn.s (a.tb _ (by omega) (by omega))) (agK b.cn.s (b.tb _ (by omega) (by omega)))
  · obtain ⟨i,hi,rfl⟩:=List.mem_map.1 hg
    have hr:=l6 a b i hi;have e1:=a.v (i:=i) (by omega) (by omega);have e2:=b.v (i:=i) (by omega) (by omega);show SL _ _ (D (vF A i).1 (vF B i).1);rw [e1,e2];exact hD.one.ok (P:=fun l=>SL (-1099511627776) 1099511627776 l) trivial (acu a.cn.s (a.tk _ (by omega) (by omega))) (acu b.cn.s (b.tk _ (by omega) (by omega)))
  · obtain ⟨i,hi,rfl⟩:=List.mem_map.1 hg
    have hr:=l6 a b i hi;exact l5 (by simp only;omega)
  · show ((jr A B).map fun i=>(⟨i,D (vF A i).1 (vF B i).1⟩:Gn)).Pairwise _
    rw [List.pairwise_map];exact aej A B
def ael (A:Fm):Prop:=∀ i k,i<k→inR i→inR k→gF A i≠[]→gF A k≠[]→lQ (gF A i)<lF (gF A k)
theorem aem {A:Fm} (h:FOK A.f0 A.f1 A.f2 A.f3):ael A:=fun i k hik ri rk hi hk=>by
  have n1:fs A.f1 A.f2 A.f3 i≠[]:=l9.2 hi;have n2:fs A.f1 A.f2 A.f3 k≠[]:=l9.2 hk;have:=h.ord i k hik ri rk n1 n2;have q1:=(lC (p:=A.f0) n1).2.2;have q2:=(lC (p:=A.f0) n2).2.1;unfold gF;omega
theorem adQ {O A:Fm} (h:ael A) (hp:∀ i,gF O i=gF A i∨gF O i=[]):ael O:=fun i k hik ri rk hi hk=>by
  rcases hp i with e | e
  · rcases hp k with f | f
    · rw [e,f]
      rw [e] at hi;rw [f] at hk;exact h i k hik ri rk hi hk
    · exact absurd f hk
  · exact absurd e hi
theorem ah3 {O:Fm} (s:sfF O) (hl:O.f2.length≤144) (hix:∀ g∈O.f3,-100≤g.f0∧g.f0≤100) (hk:∀ i,-6000≤i→i≤6000→okL (gF O i)) (h:ael O):grF O:=by
  have hv:∀ i,-6000≤i→i≤6000→vF O i=(gF O i,0):=fun i h1 h2=>agL s (l5 (by omega)) (hk i h1 h2);have far:∀ (q:Int),200≤q→∀ (j:Nat) (hj:j<O.f2.length),gF O (q*O.f1+j)=O.f2[j].map (fK (q*O.f0)):=fun q hq j hj=>by
    have e:bF O (q*O.f1+j)=O.f2[j].map (fK (q*O.f0)):=qg s q j hj;rw [← e];have hc:=s.hc;have h1:200*O.f1≤q*O.f1:=Int.mul_le_mul_of_nonneg_right hq (by omega);exact mQ fun g hg e=>by have:=hix g hg;omega
  have hfl:∀ (l:List Sp) (n:Int),l≠[]→lF (l.map (fK n))=lF l+n∧lQ (l.map (fK n))=lQ l+n:=fun l n hn=>by
    induction l with
    | nil=>exact absurd rfl hn
    | cons x r ih =>
      refine ⟨rfl,?_⟩;cases r with
      | nil=>rfl
      | cons y r=>exact (ih (by simp)).2
  have hO:∀ (q q':Int) (j j':Nat) (hj:j<O.f2.length) (hj':j'<O.f2.length),200≤q→q≤201→200≤q'→q'≤201→q*O.f1+j<q'*O.f1+j'→O.f2[j]≠[]→O.f2[j']≠[]→lQ O.f2[j]+q*O.f0<lF O.f2[j']+q'*O.f0:=fun q q' j j' hj hj' a1 a2 b1 b2 hlt n1 n2=>by
    have hc:=s.hc;have u1:0≤q*O.f1:=Int.mul_nonneg (by omega) (by omega);have u2:q*O.f1≤201*O.f1:=Int.mul_le_mul_of_nonneg_right a2 (by omega);have u3:0≤q'*O.f1:=Int.mul_nonneg (by omega) (by omega);have u4:q'*O.f1≤201*O.f1:=Int.mul_le_mul_of_nonneg_right b2 (by omega);have e1:=far q a1 j hj;have e2:=far q' b1 j' hj';have:=h (q*O.f1+j) (q'*O.f1+j') hlt (l5 (by omega)) (l5 (by omega)) (by rw [e1];simpa using n1) (by rw [e2];simpa using n2);rw [e1,e2,(hfl _ _ n1).2,(hfl _ _ n2).1] at this;exact this
  have tf:TF O.f0 O.f2:=by
    refine ⟨List.pairwise_iff_getElem.2 fun i j hi hj hij n1 n2 => ?_,fun a ha b hb n1 n2 => ?_⟩
    · have:=hO 200 200 i j hi hj (by omega) (by omega) (by omega) (by omega) (by omega) n1 n2
      omega
    · obtain ⟨i,hi,rfl⟩:=List.mem_iff_getElem.1 ha
      obtain ⟨j,hj,rfl⟩:=List.mem_iff_getElem.1 hb;have hc:=s.hc;have:=hO 200 201 i j hi hj (by omega) (by omega) (by omega) (by omega) (by omega) n1 n2;omega
  have nu:∀ i k,-100≤i→i≤100→i<k→gF O k≠[]→gap O.f1 O.f2 O.f3 i k→k≤300:=fun i k h1 h2 hik hn hg=>by
    refine Classical.byContradiction fun hk2 => ?_;have hz:∀ g∈O.f3,g.f0≠k:=fun g hg e=>by have:=hix g hg;omega
    have hb:bF O k≠[]:=by rw [← mQ hz];exact hn
    by_cases hc0:O.f2.length=0
    · exact hb (rP (List.length_eq_zero_iff.1 hc0) k)
    · have st:Stp (bF O) O.f2.length O.f0:=qy s (by omega)
      have e:=st (k - O.f2.length);rw [show k - (O.f2.length:Int)+(O.f2.length:Int)=k by omega] at e;have hn2:bF O (k - O.f2.length)≠[]:=fun e2=>hb (by rw [e,e2];rfl);have hz2:∀ g∈O.f3,g.f0≠k - O.f2.length:=fun g hg e=>by have:=hix g hg;omega
      rw [← mQ hz2] at hn2;exact l9.2 hn2 (hg _ (by omega) (by omega))
  have nd:∀ i k,-100≤i→i≤100→k<i→gF O k≠[]→gap O.f1 O.f2 O.f3 k i → -300≤k:=fun i k h1 h2 hik hn hg=>by
    refine Classical.byContradiction fun hk2 => ?_;have hz:∀ g∈O.f3,g.f0≠k:=fun g hg e=>by have:=hix g hg;omega
    have hb:bF O k≠[]:=by rw [← mQ hz];exact hn
    by_cases hc0:O.f2.length=0
    · exact hb (rP (List.length_eq_zero_iff.1 hc0) k)
    · have st:Stp (bF O) O.f2.length O.f0:=qy s (by omega)
      have e:=st k;have hn2:bF O (k+O.f2.length)≠[]:=fun e2=>hb (by rw [e2] at e;simpa using e.symm);have hz2:∀ g∈O.f3,g.f0≠k+O.f2.length:=fun g hg e=>by have:=hix g hg;omega
      rw [← mQ hz2] at hn2;exact l9.2 hn2 (hg _ (by omega) (by omega))
  have ah:∀ i k,-1000≤i→i≤1000 → -1000≤k→k≤1000→i<k→jJ (vF O i).1 (vF O k).1=true:=fun i k h1 h2 h3 h4 hik=>by
    rw [hv i (by omega) (by omega),hv k (by omega) (by omega)];exact (rJ _ _).2 fun n1 n2=>h i k hik (l5 (by omega)) (l5 (by omega)) n1 n2
  refine ⟨s,tf,fun g hg => ?_⟩;have hr:=hix g hg;refine ⟨?_,fun k hik rk nk gk => ?_,fun k hik rk nk gk => ?_,fun j k hj hk' rj rk nj nk gj gk => ?_⟩
  · show (vF O g.f0).2=0
    rw [hv _ (by omega) (by omega)]
  · have:=nu g.f0 k (by omega) (by omega) hik (l9.1 nk) gk
    refine ⟨?_,ah _ _ (by omega) (by omega) (by omega) (by omega) hik⟩;show (vF O k).2=0;rw [hv _ (by omega) (by omega)]
  · have:=nd g.f0 k (by omega) (by omega) hik (l9.1 nk) gk
    refine ⟨?_,ah _ _ (by omega) (by omega) (by omega) (by omega) hik⟩;show (vF O k).2=0;rw [hv _ (by omega) (by omega)]
  · have:=nd g.f0 j (by omega) (by omega) hj (l9.1 nj) gj
    have:=nu g.f0 k (by omega) (by omega) hk' (l9.1 nk) gk;exact ah j k (by omega) (by omega) (by omega) (by omega) (by omega)
end
end Go.Proofs.YtcomnjodjijcmaaGreat.Q
namespace Go.Proofs.YtcomnjodjijcmaaGreat.Q
set_option linter.unusedVariables false
set_option linter.unusedSimpArgs false
open Go.RowKit Go.Proofs.YtcomnjodjijcmaaGreatW.dB Go.Proofs.YtcomnjodjijcmaaGreatW.eO M R P
section
theorem nU {O h:Fm} (so:sfF O) (s:adN O h) (i:Int):gF h i=gF O i:=wS.adK so s i
theorem uX {O h:Fm} (so:sfF O) (s:adN O h) (i:Int):bF h i=bF O i:=by
  have:=s.c.ticks so i;rw [oK,oK] at this;exact this
theorem qz {O h:Fm} (so:sfF O) (s:adN O h):h.f2.length≤O.f2.length∧h.f3.length≤O.f3.length∧h.f0≤O.f0∧(h.f2=[]∨(h.f2.length ∣ O.f2.length∧O.f2.length≠0∧h.f0*((O.f2.length / h.f2.length:Nat):Int)=O.f0)):=by
  have ho:h.f3.length≤O.f3.length:=by rw [s.o];exact List.length_filter_le _ _
  by_cases hb:∀ l∈O.f2,l=[]
  · have e:=s.c.e hb
    have e2:h.f2=[]:=congrArg (fun x:Fm=>x.f2) e;have e0:h.f0=0:=congrArg (fun x:Fm=>x.f0) e;exact ⟨by rw [e2];simp,ho,by rw [e0];exact so.hp0,.inl e2⟩
  · obtain ⟨d,rp,_,e⟩:=s.c.n hb
    have e2:h.f2=O.f2.take d:=congrArg (fun x:Fm=>x.f2) e;have e0:h.f0=O.f0 / ((O.f2.length / d:Nat):Int):=congrArg (fun x:Fm=>x.f0) e;have hne:O.f2.length≠0:=fun e=>hb fun l hl=>by rw [List.length_eq_zero_iff.1 e] at hl;simp at hl
    have hd:d≤O.f2.length:=Nat.le_of_dvd (by omega) rp.d1;have el:h.f2.length=d:=by rw [e2,List.length_take];omega
    refine ⟨by omega,ho,?_,.inr ⟨by rw [el];exact rp.d1,hne,?_⟩⟩
    · rw [e0]
      exact Int.ediv_le_self _ so.hp0
    · rw [el,e0]
      exact Int.ediv_mul_cancel rp.d2
structure agZ (O:Fm):Prop where
  s:sfF O
  g:grF O
  lc:O.f2.length≤144
  lo:O.f3.length≤16
  hp:O.f0≤10000
  ix:∀ g∈O.f3,-100≤g.f0∧g.f0≤100
  tk:∀ i,-6000≤i→i≤6000→okL (gF O i)
  tb:∀ i,-6000≤i→i≤6000→okL (bF O i)
  ln:∀ i,(gF O i).length≤60
  lb:∀ i,(bF O i).length≤60
theorem agZ.nf {O h:Fm} (H:agZ O) (s:adN O h):NF h:=by
  obtain ⟨l1,l2,l3,_⟩:=qz H.s s;have:=H.lc;have:=H.lo;have:=H.hp;exact ⟨s.can H.s,s.gr H.g,by omega,by omega,by omega,fun g hg=>H.ix g (by rw [s.o] at hg;exact (List.mem_filter.1 hg).1),fun i h1 h2=>by rw [nU H.s s];exact H.tk i h1 h2,fun i h1 h2=>by rw [uX H.s s];exact H.tb i h1 h2,fun i=>by rw [nU H.s s];exact H.ln i,fun i=>by rw [uX H.s s];exact H.lb i⟩
theorem adR {O:Fm} (w:nG O.f0 O.f1 O.f2 O.f3):agZ O:=by
  have:=w.lc;have:=w.lo;have p60:=w.p60;have p0:=w.ok.s.hp0;have sz:=w.sz;have sb:lN O.f2 []≤lN O.f2 O.f3:=by
    unfold lN;have:0≤(O.f3.map fun g=>(g.f1.length:Int)).sum:=oJ (fun x hx=>by obtain ⟨g,_,rfl⟩:=List.mem_map.1 hx;omega);simp only [List.map_nil,List.sum_nil,Int.add_zero];exact Int.le_add_of_nonneg_right this
  refine ⟨w.ok.s,w.gr,by omega,by omega,by omega,fun g hg=>(w.ho g hg).1,fun i h1 h2 s hs => ?_,fun i h1 h2 s hs => ?_,fun i => ?_,fun i => ?_⟩
  · have:=w.th (i:=i) (by omega) s (by unfold thV;rw [w.rQ (by omega)];exact hs)
    omega
  · obtain ⟨s0,hs0,rfl⟩:=List.mem_map.1 hs
    by_cases hc:O.f1=0
    · unfold gK at hs0
      rw [if_pos hc] at hs0;simp at hs0
    · have hm:=w.ok.s.jU i hc
      have hS:=w.ok.s.hcore _ hm;have b:=hS.between hs0;have q:=w.hc _ hm (fun e=>by rw [e] at hs0;simp at hs0);have hc0:=w.ok.s.hc;have d:=ah1 (i:=i) (c:=O.f1) (by omega) (by omega);have m1:i / O.f1*O.f0≤6000*O.f0:=Int.mul_le_mul_of_nonneg_right d.2 p0;have m2 : -6000*O.f0≤i / O.f1*O.f0:=Int.mul_le_mul_of_nonneg_right d.1 p0;simp only [fK];omega
  · have:=aeh w.ok.s i
    unfold gF;omega
  · have:=aeh w.ok.s.abT i
    have e:bF O i=gT O.f0 O.f1 O.f2 [] i:=(oK i).symm;rw [e];omega
structure Sml (A:Fm):Prop where
  nf:NF A
  c:A.f2.length≤12
  o:A.f3.length≤8
  p:A.f0≤60
theorem zJ {O h:Fm} (w:nG O.f0 O.f1 O.f2 O.f3) (s:adN O h):Sml h:=by
  obtain ⟨l1,l2,l3,_⟩:=qz w.ok.s s;have:=w.lc;have:=w.lo;have:=w.p60;exact ⟨(adR w).nf s,by omega,by omega,by omega⟩
theorem agM (a b:Nat):Nat.lcm a b≤a*b:=Nat.div_le_self _ _
theorem afw {A B:Fm} (a:Sml A) (b:Sml B):nF A B≤144:=by
  have:=a.c;have:=b.c;unfold nF rn;split
  · omega
  · split
    · omega
    · exact Nat.le_trans (agM _ _) (Nat.mul_le_mul a.c b.c)
theorem ah4 {A B:Fm} (a:Sml A) (b:Sml B):tF A B≤10000:=by
  have hn:=afw a b;have:=a.p;have:=b.p;unfold tF rt;split
  · omega
  · have hq:rn A.f2.length B.f2.length / A.f2.length≤144:=Nat.le_trans (Nat.div_le_self _ _) hn
    generalize rn A.f2.length B.f2.length / A.f2.length=q at hq;have h1:A.f0*(q:Int)≤60*(q:Int):=Int.mul_le_mul_of_nonneg_right a.p (by omega);omega
variable {D:List Sp→List Sp→List Sp} {A B:Fm}
theorem NF.sW (hD:zI D) (a:NF A) (b:NF B) (hf:oL A B) (i:Int):gF (gX D A B) i=D (gF A i) (gF B i) :=
  Q.sW hD a.cn.s b.cn.s hf (fun i hi=>by have:=l6 a b i hi;rw [a.v (by omega) (by omega)]) (fun i hi=>by have:=l6 a b i hi;rw [b.v (by omega) (by omega)]) i
theorem aen (a:NF A) (b:NF B):∀ g∈(gX D A B).f3,-100≤g.f0∧g.f0≤100:=fun g hg=>by
  obtain ⟨i,hi,rfl⟩:=List.mem_map.1 hg;exact l6 a b i hi
theorem aeo (hD:zI D) (a:NF A) (b:NF B) (hf:oL A B):∀ i,-6000≤i→i≤6000→okL (gF (gX D A B) i):=fun i h1 h2=>by
  rw [a.sW hD b hf];exact hD.one.ok acs (a.tk i h1 h2) (b.tk i h1 h2)
theorem aep:(gX D A B).f2.length=nF A B:=by simp [gX]
theorem agN:(gX D A B).f3.length≤A.f3.length+B.f3.length:=by
  have:(gX D A B).f3.length=(jr A B).length:=by simp [gX]
  have:=nT A B;omega
theorem agO (hD:zI D) (a:NF A) (b:NF B) (hn:nF A B≤144) (hf:oL A B) {C:Fm} (hC:ael C) (hp:∀ i,D (gF A i) (gF B i)=gF C i∨D (gF A i) (gF B i)=[]):grF (gX D A B) :=
  ah3 (acv hD a b hn) (by rw [aep];exact hn) (aen a b) (aeo hD a b hf) (adQ hC fun i=>by rw [a.sW hD b hf];exact hp i)
theorem x9 (hD:zI D) (a:Sml A) (b:Sml B) (hf:oL A B) (g:grF (gX D A B)):agZ (gX D A B):=by
  have hn:=afw a b;have:=agN (D:=D) (A:=A) (B:=B);have:=a.o;have:=b.o;exact ⟨acv hD a.nf b.nf hn,g,by rw [aep];exact hn,by omega,ah4 a b,aen a.nf b.nf,aeo hD a.nf b.nf hf,fun i h1 h2=>by
    rw [acr hD a.nf.cn.s b.nf.cn.s hf];exact hD.one.ok acs (a.nf.tb i h1 h2) (b.nf.tb i h1 h2),fun i=>by
    rw [a.nf.sW hD b.nf hf];exact hD.one.ok (P:=fun l=>l.length≤60) (by simp) (a.nf.ln i) (b.nf.ln i),fun i=>by
    rw [acr hD a.nf.cn.s b.nf.cn.s hf];exact hD.one.ok (P:=fun l=>l.length≤60) (by simp) (a.nf.lb i) (b.nf.lb i)⟩
theorem NF.ord (a:NF A):ael A:=aem a.gr.fok
theorem adS {O O' z l:Fm} (so:sfF O) (aa:sfF O') (s:adN O z) (s':adN O' l) (hl:O.f2.length=O'.f2.length) (h0:O.f0=O'.f0):oL z l∧nF z l≤O.f2.length:=by
  obtain ⟨a1,_,_,a4⟩:=qz so s;obtain ⟨b1,_,_,b4⟩:=qz aa s';rcases a4 with e | ⟨d1,n1,p1⟩
  · refine ⟨.inl e,?_⟩
    unfold nF rn;rw [if_pos (by rw [e];rfl)];omega
  rcases b4 with e | ⟨d2,n2,p2⟩
  · refine ⟨.inr (.inl e),?_⟩
    unfold nF rn;by_cases hz:z.f2.length=0
    · rw [if_pos hz,e]
      simp
    · rw [if_neg hz,if_pos (by rw [e];rfl)]
      exact a1
  by_cases hz:z.f2.length=0
  · refine ⟨.inl (List.length_eq_zero_iff.1 hz),?_⟩
    unfold nF rn;rw [if_pos hz];omega
  by_cases hz':l.f2.length=0
  · refine ⟨.inr (.inl (List.length_eq_zero_iff.1 hz')),?_⟩
    unfold nF rn;rw [if_neg hz,if_pos hz'];exact a1
  have en:nF z l=Nat.lcm z.f2.length l.f2.length:=by unfold nF rn;rw [if_neg hz,if_neg hz']
  have dm:nF z l ∣ O.f2.length:=by rw [en];exact Nat.lcm_dvd d1 (by rw [hl];exact d2)
  refine ⟨.inr (.inr ?_),Nat.le_of_dvd (by omega) dm⟩;obtain ⟨e,he⟩:=dm;obtain ⟨u,hu⟩:z.f2.length ∣ nF z l:=by rw [en];exact Nat.dvd_lcm_left _ _
  obtain ⟨w,hw⟩:l.f2.length ∣ nF z l:=by rw [en];exact Nat.dvd_lcm_right _ _
  have e0:e≠0:=fun h=>n1 (by rw [he,h,Nat.mul_zero]);have q1:O.f2.length / z.f2.length=u*e:=by rw [he,hu,Nat.mul_assoc,Nat.mul_div_cancel_left _ (by omega)]
  have q2:O'.f2.length / l.f2.length=w*e:=by rw [← hl,he,hw,Nat.mul_assoc,Nat.mul_div_cancel_left _ (by omega)]
  have t1:tF z l=z.f0*(u:Int):=by
    have:rn z.f2.length l.f2.length / z.f2.length=u:=by
      show nF z l / z.f2.length=u;rw [hu,Nat.mul_div_cancel_left _ (by omega)]
    unfold tF rt;rw [if_neg hz,this]
  have t2:tF l z=l.f0*(w:Int):=by
    have:rn l.f2.length z.f2.length / l.f2.length=w:=by
      show nF l z / l.f2.length=w;rw [uU,hw,Nat.mul_div_cancel_left _ (by omega)]
    unfold tF rt;rw [if_neg hz',this]
  rw [t1,t2];rw [q1] at p1;rw [q2] at p2;have key:z.f0*(u:Int)*(e:Int)=l.f0*(w:Int)*(e:Int):=by
    have h1:z.f0*(u:Int)*(e:Int)=O.f0:=by rw [← p1,Int.mul_assoc];simp
    have h2:l.f0*(w:Int)*(e:Int)=O'.f0:=by rw [← p2,Int.mul_assoc];simp
    rw [h1,h2,h0]
  exact Int.eq_of_mul_eq_mul_right (by omega) key
end
end Go.Proofs.YtcomnjodjijcmaaGreat.Q
namespace Go.Proofs.YtcomnjodjijcmaaGreat.Q
set_option linter.unusedVariables false
set_option linter.unusedSimpArgs false
open Go.RowKit Go.Proofs.YtcomnjodjijcmaaGreatW.dB Go.Proofs.YtcomnjodjijcmaaGreatW.eO M R P
theorem aaD (k:Nat):@eZ.f wtT (k+100)=some true:=by kernel_rfl
variable [Inhabited WT]
theorem nC:Ev (fun k=>eZ.f k) true:=⟨100,fun k hk=>by
  obtain ⟨j,rfl⟩:=Nat.exists_eq_add_of_le' hk;rename_i i;rw [afV i wtT];exact aaD j⟩
end Go.Proofs.YtcomnjodjijcmaaGreat.Q
namespace Go.Proofs.YtcomnjodjijcmaaGreat.U
set_option linter.unusedVariables false
set_option linter.unusedSimpArgs false
open Go.RowKit Go.Proofs.YtcomnjodjijcmaaGreatW.dB Go.Proofs.YtcomnjodjijcmaaGreatW.eO M R P Q
section
theorem uY {D:List Sp→List Sp→List Sp} (hD:zI D) {A B:Fm} (a:NF A) (b:NF B) (hn:nF A B≤144) (hal:rO A B) {r:Fm × Int} (hr:OfS D A B r) {C:Fm} (hC:ael C) (hp:∀ i,D (gF A i) (gF B i)=gF C i∨D (gF A i) (gF B i)=[]) :
    ∃ h,adN (gX D A B) h∧grF (gX D A B)∧r=(h,0)∧∀ i,gF h i=D (gF A i) (gF B i):=by
  have g:=agO hD a b hn hal.1 hC hp;obtain ⟨h,h1,h2⟩:=(hr.2 hal).2 g;exact ⟨h,h1,g,h2,fun i=>by rw [nU (acv hD a b hn) h1,a.sW hD b hal.1]⟩
end
variable [Inhabited WT]
theorem aaE {z:Fm} (h:cnF z):Ev (fun k=>dN.f k z.f0 z.f1 z.f2 z.f3) z:=by
  obtain ⟨r,r1,r2⟩:=kY h.s;have e:=Can.fix h r2;rw [e] at r1;exact r1
end Go.Proofs.YtcomnjodjijcmaaGreat.U
namespace Go.Proofs.YtcomnjodjijcmaaGreat.Q
set_option linter.unusedVariables false
set_option linter.unusedSimpArgs false
open Go.RowKit Go.Proofs.YtcomnjodjijcmaaGreatW.dB Go.Proofs.YtcomnjodjijcmaaGreatW.eO M R P
variable [Inhabited WT]
theorem agP (k:Nat) (l:List Sp) (i:Bool) (t:Int):fE.f k l i t=some (jv l i t):=by
  cases l with
  | nil=>cases i <;> simp [fE.f,jv]
  | cons s r =>
    have c0:(((s :: r).length:Int)>0):=by simp
    have c1:(0:Int)<((s :: r).length:Int):=by simp
    have c2:(1:Int)≤((s :: r).length:Int):=by simp;omega
    have hg:gS (s :: r) 0=s:=rfl;simp only [fE.f,decide_eq_true_eq,c0,c1,c2,if_true,hg,tN,List.drop_one,List.tail_cons];cases i with
    | true=>simp only [jv,if_true];split <;> simp
    | false=>simp only [jv];simp;split <;> rfl
theorem zK (k:Nat) (l:List Sp) (i:Bool) (h:l≠[]):eF.f k l i=some (oO l i):=by
  cases l with
  | nil=>exact absurd rfl h
  | cons s r =>
    have c1:(0:Int)<((s :: r).length:Int):=by simp
    have hg:gS (s :: r) 0=s:=rfl;simp only [eF.f,c1,if_true,hg,tN];cases i <;> simp [oO]
def YY {γ:Type} (yes:Bool→Bool→Bool) (t:Int) (a b:Bool) (out:List Sp) (inn:Bool) (fr:Int) (x y:List Sp) (x0:List Sp→Bool→Int→List Sp→List Sp→Option γ):Option γ :=
  if yes a b=true then (if (!inn)=true then x0 out (yes a b) t x y else (if (!yes a b)=true then (if inn=true then (if out.length+1≤8796093022208 then x0 (out++[⟨fr,wq (t - 1)⟩]) (yes a b) fr x y else none) else x0 out (yes a b) fr x y) else x0 out (yes a b) fr x y))
  else (if (!yes a b)=true then (if inn=true then (if out.length+1≤8796093022208 then x0 (out++[⟨fr,wq (t - 1)⟩]) (yes a b) fr x y else none) else x0 out (yes a b) fr x y) else x0 out (yes a b) fr x y)
theorem yc {γ:Type} (yes:Bool→Bool→Bool) (t:Int) (a b:Bool) (s:Kst) (x y:List Sp) (x0:List Sp→Bool→Int→List Sp→List Sp→Option γ) (h:s.out.length+1≤8796093022208) :
    YY yes t a b s.out s.inn s.from_ x y x0=x0 (kV yes s ⟨t,a,b⟩).out (kV yes s ⟨t,a,b⟩).inn (kV yes s ⟨t,a,b⟩).from_ x y:=by
  unfold YY kV;simp only [tN,h,if_true];cases yes a b <;> cases s.inn <;> simp
theorem acw (yes:Bool→Bool→Bool):∀ (n:Nat) (a:List Sp) (ia:Bool) (b:List Sp) (ib:Bool) (s:Kst),msr a ia+msr b ib≤n→s.out.length+n≤1000000000→a.length+b.length≤1000000000 →
    Ev (fun k=>dV.l0 (YY yes) (fun y _ _ _ _=>some y) k ia ib s.out s.inn s.from_ a b) ((qd a ia b ib).foldl (kV yes) s).out:=by
  intro n;induction n with
  | zero =>
    intro a ia b ib s hn hs hl;have e:a=[]∧b=[]:=Classical.byContradiction fun e=>by have:=qE a ia b ib e;omega
    obtain ⟨rfl,rfl⟩:=e;rw [nY];refine Ev.step (f:=fun _=>some s.out) (fun k => ?_) (Ev.now _);have:¬ (wq 0>0):=by rw [jf (by omega) (by omega)];omega
    simp [dV.l0,dV.l0T,this]
  | succ n ih =>
    intro a ia b ib s hn hs hl;by_cases e:a=[]∧b=[]
    · obtain ⟨rfl,rfl⟩:=e
      rw [nY];refine Ev.step (f:=fun _=>some s.out) (fun k => ?_) (Ev.now _);have:¬ (wq 0>0):=by rw [jf (by omega) (by omega)];omega
      simp [dV.l0,dV.l0T,this]
    · have hlt:=qE a ia b ib e
      have hla:∀ (l:List Sp) (i:Bool) (t:Int),(jv l i t).1.length≤l.length:=fun l i t=>by
        match l,i with
        | [],i=>simp [jv]
        | s :: r,true=>simp only [jv];split <;> simp
        | s :: r,false=>simp only [jv];split <;> simp
      rw [sw a ia b ib e,List.foldl_cons];have hk:=aaW yes s ⟨atL a ia b ib,(jv a ia (atL a ia b ib)).2,(jv b ib (atL a ia b ib)).2⟩;have q:=ih (jv a ia (atL a ia b ib)).1 (jv a ia (atL a ia b ib)).2 (jv b ib (atL a ia b ib)).1 (jv b ib (atL a ia b ib)).2 (kV yes s ⟨atL a ia b ib,(jv a ia (atL a ia b ib)).2,(jv b ib (atL a ia b ib)).2⟩) (by omega) (by omega) (by have:=hla a ia (atL a ia b ib);have:=hla b ib (atL a ia b ib);omega);refine Ev.step (fun k=>rfl) ?_;have hw:wq ((a.length:Int)+(b.length:Int))>0:=by
        rw [jf (by omega) (by omega)];have:0<a.length+b.length:=Nat.pos_of_ne_zero fun h0=>e ⟨List.eq_nil_of_length_eq_zero (by omega),List.eq_nil_of_length_eq_zero (by omega)⟩;omega
      have hs1:s.out.length+1≤8796093022208:=by omega
      simp only [dV.l0,dV.l0T,decide_eq_true_eq,hw,if_true,agP,Option.bind_some];by_cases ha:a=[]
      · have hb:b≠[]:=fun h=>e ⟨ha,h⟩
        have hat:atL a ia b ib=oO b ib:=by unfold atL;rw [if_pos ha]
        refine Ev.yes (by rw [ha];rfl) ?_;simp only [zK _ b ib hb,Option.bind_some,yc yes _ _ _ s _ _ _ hs1];rw [← hat];exact q
      · have ha':¬ (a.length:Int)=0:=fun h=>ha (List.eq_nil_of_length_eq_zero (by omega))
        refine Ev.no ha' ?_;by_cases hb:b=[]
        · have hat:atL a ia b ib=oO a ia:=by unfold atL;rw [if_neg ha,if_pos hb]
          refine Ev.yes (by rw [hb];rfl) ?_;simp only [zK _ a ia ha,Option.bind_some,yc yes _ _ _ s _ _ _ hs1];rw [← hat];exact q
        · have hb':¬ (b.length:Int)=0:=fun h=>hb (List.eq_nil_of_length_eq_zero (by omega))
          have hat:atL a ia b ib=mn (oO a ia) (oO b ib):=by unfold atL;rw [if_neg ha,if_neg hb,agt]
          refine Ev.no hb' ?_;simp only [zK _ a ia ha,zK _ b ib hb,Option.bind_some,yc yes _ _ _ s _ _ _ hs1];rw [← hat];exact q
theorem yg (yes:Bool→Bool→Bool) (a b:List Sp) (h:a.length+b.length≤1000000):Ev (fun k=>dV.l0 (YY yes) (fun y _ _ _ _=>some y) k false false [] false 0 a b) (qF yes a b) :=
  acw yes _ a false b false ⟨false,0,[]⟩ (Nat.le_refl _) (by unfold msr;simp;omega) (by omega)
theorem afx (a b:List Sp) (h:a.length+b.length≤1000000):Ev (fun k=>dV.f k a b) (qF (fun a b=>a && !b) a b):=by
  refine Ev.congr (fun k => ?_) (yg (fun a b=>a && !b) a b h);have:∀ x y,iP.f k x y=some (x && !y):=fun x y=>by cases x <;> rfl
  simp only [dV.f,this,Option.bind_some];rfl
theorem adT {γ:Type} (Y:Int→Bool→Bool→List Sp→Bool→Int→List Sp→List Sp→(List Sp→Bool→Int→List Sp→List Sp→Option γ)→Option γ) (X:List Sp→Bool→Int→List Sp→List Sp→Option γ) (k:Nat):eU.l0 Y X k=dV.l0 Y X k:=by kernel_rfl
theorem agQ (a b:List Sp) (h:a.length+b.length≤1000000):Ev (fun k=>eU.f k a b) (qF (fun a b=>a&&b) a b):=by
  refine Ev.congr (fun k => ?_) (yg (fun a b=>a&&b) a b h);have:∀ x y,jd.f k x y=some (x&&y):=fun x y=>by cases x <;> rfl
  simp only [eU.f,this,Option.bind_some,adT];rfl
end Go.Proofs.YtcomnjodjijcmaaGreat.Q
namespace Go.Proofs.YtcomnjodjijcmaaGreat.Q
set_option linter.unusedVariables false
set_option linter.unusedSimpArgs false
open Go.RowKit Go.Proofs.YtcomnjodjijcmaaGreatW.dB Go.Proofs.YtcomnjodjijcmaaGreatW.eO M R P
variable [Inhabited WT]
theorem aaF {γ:Type} (Y:Int→Bool→Bool→List Sp→Bool→Int→List Sp→List Sp→(List Sp→Bool→Int→List Sp→List Sp→Option γ)→Option γ) (X:List Sp→Bool→Int→List Sp→List Sp→Option γ) (k:Nat):dX.l0 Y X k=dV.l0 Y X k:=by kernel_rfl
theorem adU (a b:List Sp) (h:a.length+b.length≤1000000):Ev (fun k=>dX.f k a b) (qF (fun a b=>a || b) a b):=by
  refine Ev.congr (fun k => ?_) (yg (fun a b=>a || b) a b h);have:∀ x y,iE.f k x y=some (x || y):=fun x y=>by cases x <;> rfl
  simp only [dX.f,this,Option.bind_some,aaF];rfl
end Go.Proofs.YtcomnjodjijcmaaGreat.Q
namespace Go.Proofs.YtcomnjodjijcmaaGreat.Q
set_option linter.unusedVariables false
set_option linter.unusedSimpArgs false
open Go.RowKit Go.Proofs.YtcomnjodjijcmaaGreatW.dB Go.Proofs.YtcomnjodjijcmaaGreatW.eO M R P
section
def PC:List (List Sp)→List (List Sp)→Prop
  | [],[]=>True
  | l :: r,l' :: r'=>(l'=l∨l'=[])∧PC r r'
  | _,_=>False
def PO:List Gn→List Gn→Prop
  | [],[]=>True
  | g :: r,g' :: r'=>(g'.f0=g.f0∧(g'.f1=g.f1∨g'.f1=[]))∧PO r r'
  | _,_=>False
theorem PC.refl:∀ l,PC l l
  | []=>trivial
  | x :: r=>⟨.inl rfl,PC.refl r⟩
theorem PO.refl:∀ l,PO l l
  | []=>trivial
  | x :: r=>⟨⟨rfl,.inl rfl⟩,PO.refl r⟩
theorem PC.len:∀ {l m},PC l m→m.length=l.length
  | [],[],_=>rfl
  | _ :: _,_ :: _,h=>by simp [PC.len h.2]
theorem PO.len:∀ {l m},PO l m→m.length=l.length
  | [],[],_=>rfl
  | _ :: _,_ :: _,h=>by simp [PO.len h.2]
theorem PC.set:∀ {l m} (i:Nat),PC l m→PC l (m.set i [])
  | [],[],_,_=>trivial
  | _ :: _,_ :: _,0,h=>⟨.inr rfl,h.2⟩
  | _ :: _,_ :: _,i+1,h=>⟨h.1,PC.set i h.2⟩
theorem PO.set:∀ {l m} (i:Nat) (hi:i<m.length),PO l m→PO l (m.set i ⟨(m[i]).f0,[]⟩)
  | [],[],_,_,_=>trivial
  | _ :: _,_ :: _,0,_,h=>⟨⟨h.1.1,.inr rfl⟩,h.2⟩
  | _ :: _,_ :: _,i+1,hi,h=>⟨h.1,PO.set i (by simpa using hi) h.2⟩
theorem PC.mem:∀ {l m},PC l m→∀ x∈m,x∈l∨x=[]
  | [],[],_,x,hx=>by simp at hx
  | y :: r,z :: s,h,x,hx=>by
    rcases List.mem_cons.1 hx with rfl | hx
    · rcases h.1 with e | e
      · exact .inl (by rw [e];simp)
      · exact .inr e
    · rcases PC.mem h.2 x hx with e | e
      · exact .inl (List.mem_cons_of_mem _ e)
      · exact .inr e
theorem PO.mem:∀ {l m},PO l m→∀ x∈m,∃ g∈l,x.f0=g.f0∧(x.f1=g.f1∨x.f1=[])
  | [],[],_,x,hx=>by simp at hx
  | y :: r,z :: s,h,x,hx=>by
    rcases List.mem_cons.1 hx with rfl | hx
    · exact ⟨y,by simp,h.1.1,h.1.2⟩
    · obtain ⟨g,hg,e⟩:=PO.mem h.2 x hx
      exact ⟨g,List.mem_cons_of_mem _ hg,e⟩
theorem PC.sum:∀ {l m},PC l m→(m.map fun x=>(x.length:Int)).sum≤(l.map fun x=>(x.length:Int)).sum
  | [],[],_=>Int.le_refl _
  | y :: r,z :: s,h=>by
    have:=PC.sum h.2;simp only [List.map_cons,List.sum_cons];rcases h.1 with e | e
    · rw [e];omega
    · rw [e];simp only [List.length_nil];omega
theorem PO.sum:∀ {l m},PO l m→(m.map fun x=>(x.f1.length:Int)).sum≤(l.map fun x=>(x.f1.length:Int)).sum
  | [],[],_=>Int.le_refl _
  | y :: r,z :: s,h=>by
    have:=PO.sum h.2;simp only [List.map_cons,List.sum_cons];rcases h.1.2 with e | e
    · rw [e];omega
    · rw [e];simp only [List.length_nil];omega
theorem PC.get:∀ {l m},PC l m→∀ i:Nat,m.getD i []=l.getD i []∨m.getD i []=[]
  | [],[],_,_=>.inl rfl
  | _ :: _,_ :: _,h,0=>by simpa using h.1
  | _ :: _,_ :: _,h,i+1=>by simpa using PC.get h.2 i
theorem PO.odd:∀ {l m},PO l m→∀ i,(jA l i=none∧jA m i=none)∨∃ x y,jA l i=some x∧jA m i=some y∧(y=x∨y=[])
  | [],[],_,_=>.inl ⟨rfl,rfl⟩
  | g :: r,g' :: r',h,i=>by
    simp only [jA];by_cases e:g.f0=i
    · rw [if_pos e,if_pos (h.1.1.trans e)]
      exact .inr ⟨_,_,rfl,rfl,h.1.2⟩
    · rw [if_neg e,if_neg (fun e2=>e (h.1.1.symm.trans e2))]
      exact PO.odd h.2 i
theorem acy {p c:Int} {core gU:List (List Sp)} {odd kQ:List Gn} (h:PC core gU) (k:PO odd kQ) (i:Int):gF ⟨p,c,gU,kQ⟩ i=gF ⟨p,c,core,odd⟩ i∨gF ⟨p,c,gU,kQ⟩ i=[]:=by
  show (fs c gU kQ i).map (fK (fb p c kQ i))=(fs c core odd i).map (fK (fb p c odd i))∨(fs c gU kQ i).map (fK (fb p c kQ i))=[];rcases k.odd i with ⟨e1,e2⟩ | ⟨x,y,e1,e2,e3⟩
  · unfold fs fb
    rw [e1,e2];simp only;unfold gK;split
    · exact .inl rfl
    · rcases h.get (i % c).toNat with e | e
      · exact .inl (by rw [e])
      · exact .inr (by rw [e];rfl)
  · unfold fs fb
    rw [e1,e2];simp only;rcases e3 with e | e
    · exact .inl (by rw [e])
    · exact .inr (by rw [e];rfl)
theorem acz {p c:Int} {core gU:List (List Sp)} {odd kQ:List Gn} (h:PC core gU) (i:Int):bF ⟨p,c,gU,kQ⟩ i=bF ⟨p,c,core,odd⟩ i∨bF ⟨p,c,gU,kQ⟩ i=[]:=by
  show (gK c gU i).map _=(gK c core i).map _∨(gK c gU i).map _=[];unfold gK;split
  · exact .inl rfl
  · rcases h.get (i % c).toNat with e | e
    · exact .inl (by rw [e])
    · exact .inr (by rw [e];rfl)
theorem wP {p c:Int} {core gU:List (List Sp)} {odd kQ:List Gn} (w:nG p c core odd) (h:PC core gU) (k:PO odd kQ) (g:GR p c gU kQ):nG p c gU kQ:=by
  have:=w.lc;have:=w.lo;refine ⟨g.fok,g,by rw [h.len];exact w.lc,by rw [k.len];exact w.lo,?_,w.p60,fun l hl => ?_,fun x hx => ?_⟩
  · have s1:=h.sum
    have s2:=k.sum;have s3:(core.map fun x=>(x.length:Int)).sum+(odd.map fun x=>(x.f1.length:Int)).sum≤60:=w.sz;show (gU.map fun x=>(x.length:Int)).sum+(kQ.map fun x=>(x.f1.length:Int)).sum≤60;omega
  · rcases h.mem l hl with e | e
    · exact w.hc l e
    · exact fun hn=>absurd e hn
  · obtain ⟨y,hy,e0,e1⟩:=k.mem x hx
    have:=w.ho y hy;refine ⟨by rw [e0];exact this.1,fun hn => ?_⟩;rcases e1 with e | e
    · rw [e] at hn ⊢;exact this.2 hn
    · exact absurd e hn
theorem zL (k:Nat) (l:List Sp) (h:l.length≤8796093022208):gZ.f k l=some l:=by
  unfold gZ.f;rw [if_pos (by omega),if_pos (by omega)];simp
end
variable [Inhabited WT]
variable {p c:Int} {core:List (List Sp)} {odd:List Gn}
theorem afy (a c:Int) (hc:1≤c∧c≤6000):∃ r,Ev (fun k=>iA.f k a c) r∧0≤r:=by
  have h1:=Int.tmod_lt_of_pos a (show 0<c by omega);have h2:=Int.lt_tmod_of_pos a (show 0<c by omega);refine ⟨Int.tmod (wq (Int.tmod a c+c)) c,?_,?_⟩
  · unfold iA.f
    exact Ev.no (by simp;omega) (Ev.no (by omega) (Ev.no (by omega) (Ev.now _)))
  · rw [jf (by omega) (by omega)]
    exact Int.tmod_nonneg _ (by omega)
theorem acA (w:nG p c core odd) (keep gone:Int):∃ gU kQ,PC core gU∧PO odd kQ∧∃ b,Ev (fun k=>cO.f k p c core odd keep gone) (⟨p,c,gU,kQ⟩,b)∧(b=true→GR p c gU kQ):=by
  have lc:=w.lc;have lo:=w.lo;have hs:=w.ok.s;have hc:=hs.hc;have mc:∀ l∈core,l.length≤8796093022208:=fun l hl=>by
    have:=(hs.hcore l hl).uH;have:l.length≤60:=by
      have h1:=w.sz;have h2:=rM (fun x:List Sp=>(x.length:Int)) (fun x=>by omega) hl;have h3:0≤(odd.map fun g=>(g.f1.length:Int)).sum:=oJ (fun x hx=>by obtain ⟨g,_,rfl⟩:=List.mem_map.1 hx;omega);have h4:(core.map fun x=>(x.length:Int)).sum+(odd.map fun x=>(x.f1.length:Int)).sum≤60:=h1;omega
    omega
  have mo:∀ g∈odd,g.f1.length≤8796093022208:=fun g hg=>by
    have h1:(core.map fun x=>(x.length:Int)).sum+(odd.map fun x=>(x.f1.length:Int)).sum≤60:=w.sz;have h2:=rM (fun x:Gn=>(x.f1.length:Int)) (fun x=>by omega) hg;have h3:0≤(core.map fun g=>(g.length:Int)).sum:=oJ (fun x hx=>by obtain ⟨g,_,rfl⟩:=List.mem_map.1 hx;omega);omega
  have k0:∀ (d j:Nat),core.length - j=d→j≤core.length→∀ (X:Nat→List (List Sp)→Option (Fm × Bool)) (v:Fm × Bool),Ev (fun k=>X k core) v→Ev (fun k=>cO.l0 (X k) core (core.length:Int) k (j:Int) (core.take j)) v:=by
    intro d;induction d with
    | zero =>
      intro j hd hj X v hX;obtain rfl:j=core.length:=by omega
      refine Ev.step (f:=fun k=>X (k+1) core) (fun k => ?_) (Ev.shift hX);have c1:¬ (core.length:Int)<(core.length:Int):=by omega
      simp only [cO.l0,cO.l0T,decide_eq_true_eq,c1,if_false,List.take_length]
    | succ d ih =>
      intro j hd hj X v hX;have hj':j<core.length:=by omega
      have c1:(j:Int)<(core.length:Int):=by omega
      have c2:(0:Int)≤(j:Int):=by omega
      have hw:=nx c1 c2 (by omega);refine Ev.step (fun k=>rfl) ?_;simp only [cO.l0,cO.l0T,decide_eq_true_eq,c1,c2,if_true,hw,rdL _ j hj',zL _ _ (mc _ (List.getElem_mem hj')),Option.bind_some];refine Ev.yes (by simp;omega) ?_;have:=ih (j+1) (by omega) (by omega) (fun k=>X (k+1)) v (Ev.shift hX);rw [List.take_succ_eq_append_getElem hj'] at this;exact this
  have k1:∀ (d j:Nat),odd.length - j=d→j≤odd.length→∀ (X:Nat→List Gn→Option (Fm × Bool)) (v:Fm × Bool),Ev (fun k=>X k odd) v→Ev (fun k=>cO.l1 (X k) odd (odd.length:Int) k (j:Int) (odd.take j)) v:=by
    intro d;induction d with
    | zero =>
      intro j hd hj X v hX;obtain rfl:j=odd.length:=by omega
      refine Ev.step (f:=fun k=>X (k+1) odd) (fun k => ?_) (Ev.shift hX);have c1:¬ (odd.length:Int)<(odd.length:Int):=by omega
      simp only [cO.l1,cO.l1T,decide_eq_true_eq,c1,if_false,List.take_length]
    | succ d ih =>
      intro j hd hj X v hX;have hj':j<odd.length:=by omega
      have c1:(j:Int)<(odd.length:Int):=by omega
      have c2:(0:Int)≤(j:Int):=by omega
      have hw:=nx c1 c2 (by omega);refine Ev.step (fun k=>rfl) ?_;simp only [cO.l1,cO.l1T,decide_eq_true_eq,c1,c2,if_true,hw,rdG _ j hj',zL _ _ (mo _ (List.getElem_mem hj')),Option.bind_some];refine Ev.yes (by simp;omega) ?_;have:=ih (j+1) (by omega) (by omega) (fun k=>X (k+1)) v (Ev.shift hX);rw [List.take_succ_eq_append_getElem hj'] at this;exact this
  have k2:∀ (d j:Nat),core.length - j=d→j≤core.length→∀ m,PC core m→∃ gU,PC core gU∧∀ (X:Nat→List (List Sp)→Option (Fm × Bool)) (v:Fm × Bool),Ev (fun k=>X k gU) v→Ev (fun k=>cO.l2 (X k) keep (core.length:Int) core.length k (j:Int) m) v:=by
    intro d;induction d with
    | zero =>
      intro j hd hj m hm;obtain rfl:j=core.length:=by omega
      refine ⟨m,hm,fun X v hX=>Ev.step (f:=fun k=>X (k+1) m) (fun k => ?_) (Ev.shift hX)⟩;have c1:¬ (core.length:Int)<(core.length:Int):=by omega
      simp only [cO.l2,cO.l2T,decide_eq_true_eq,c1,if_false]
    | succ d ih =>
      intro j hd hj m hm;have c1:(j:Int)<(core.length:Int):=by omega
      have c2:(0:Int)≤(j:Int):=by omega
      have hw:=nx c1 c2 (by omega);have ht:¬ Int.tmod (j:Int) 8<0:=by have:=Int.tmod_nonneg 8 c2;omega
      obtain ⟨m1,h1,h2⟩:=ih (j+1) (by omega) (by omega) (m.set j []) (hm.set j);obtain ⟨m3,h3,h4⟩:=ih (j+1) (by omega) (by omega) m hm;by_cases hb:(IntKind.wrap .u8 (BitVec.ofInt 8 (Int.fdiv keep (2 ^ (min (Int.toNat (Int.tmod (j:Int) 8)) 8))) &&& BitVec.ofInt 8 1).toNat)=0
      · refine ⟨m1,h1,fun X v hX=>Ev.step (fun k=>rfl) ?_⟩
        simp only [cO.l2,cO.l2T,decide_eq_true_eq,c1,c2,if_true,hw];exact Ev.no ht (Ev.yes hb (h2 (fun k=>X (k+1)) v (Ev.shift hX)))
      · refine ⟨m3,h3,fun X v hX=>Ev.step (fun k=>rfl) ?_⟩
        simp only [cO.l2,cO.l2T,decide_eq_true_eq,c1,c2,if_true,hw];exact Ev.no ht (Ev.no hb (h4 (fun k=>X (k+1)) v (Ev.shift hX)))
  have k3:∀ (d j:Nat),odd.length - j=d→j≤odd.length→∀ m,PO odd m→∃ kQ,PO odd kQ∧∀ (X:Nat→List Gn→Option (Fm × Bool)) (v:Fm × Bool),Ev (fun k=>X k kQ) v→Ev (fun k=>cO.l3 (X k) keep gone odd.length (odd.length:Int) c odd.length k (j:Int) m) v:=by
    intro d;induction d with
    | zero =>
      intro j hd hj m hm;obtain rfl:j=odd.length:=by omega
      refine ⟨m,hm,fun X v hX=>Ev.step (f:=fun k=>X (k+1) m) (fun k => ?_) (Ev.shift hX)⟩;have c1:¬ (odd.length:Int)<(odd.length:Int):=by omega
      simp only [cO.l3,cO.l3T,decide_eq_true_eq,c1,if_false]
    | succ d ih =>
      intro j hd hj m hm;have c1:(j:Int)<(odd.length:Int):=by omega
      have c2:(0:Int)≤(j:Int):=by omega
      have hw:=nx c1 c2 (by omega);have hjm:j<m.length:=by rw [hm.len];omega
      have hrd:gG m (j:Int)=m[j]:=rdG _ j hjm;obtain ⟨m1,h1,h2⟩:=ih (j+1) (by omega) (by omega) (m.set j ⟨(m[j]).f0,[]⟩) (hm.set j hjm);obtain ⟨m3,h3,h4⟩:=ih (j+1) (by omega) (by omega) m hm;by_cases hcp:c>0
      · obtain ⟨r,r1,r2⟩:=afy (m[j]).f0 c (by omega)
        have ht:¬ Int.tmod r 8<0:=by have:=Int.tmod_nonneg 8 r2;omega
        by_cases hb:(IntKind.wrap .u8 (BitVec.ofInt 8 (Int.fdiv keep (2 ^ (min (Int.toNat (Int.tmod r 8)) 8))) &&& BitVec.ofInt 8 1).toNat)=0
        · refine ⟨m1,h1,fun X v hX=>Ev.step (fun k=>rfl) ?_⟩
          simp only [cO.l3,cO.l3T,decide_eq_true_eq,c1,c2,if_true,hw,hcp,hrd];exact Ev.bind r1 (Ev.no ht (Ev.yes hb (h2 (fun k=>X (k+1)) v (Ev.shift hX))))
        · by_cases hg:(m[j]).f0=wq gone
          · refine ⟨m1,h1,fun X v hX=>Ev.step (fun k=>rfl) ?_⟩
            simp only [cO.l3,cO.l3T,decide_eq_true_eq,c1,c2,if_true,hw,hcp,hrd];exact Ev.bind r1 (Ev.no ht (Ev.no hb (Ev.yes hg (h2 (fun k=>X (k+1)) v (Ev.shift hX)))))
          · refine ⟨m3,h3,fun X v hX=>Ev.step (fun k=>rfl) ?_⟩
            simp only [cO.l3,cO.l3T,decide_eq_true_eq,c1,c2,if_true,hw,hcp,hrd];exact Ev.bind r1 (Ev.no ht (Ev.no hb (Ev.no hg (h4 (fun k=>X (k+1)) v (Ev.shift hX)))))
      · by_cases hb:(IntKind.wrap .u8 (BitVec.ofInt 8 (Int.fdiv keep 1) &&& BitVec.ofInt 8 1).toNat)=0
        · refine ⟨m1,h1,fun X v hX=>Ev.step (fun k=>rfl) ?_⟩
          simp only [cO.l3,cO.l3T,decide_eq_true_eq,c1,c2,if_true,hw,hcp,if_false,hrd];exact Ev.yes hb (h2 (fun k=>X (k+1)) v (Ev.shift hX))
        · by_cases hg:(m[j]).f0=wq gone
          · refine ⟨m1,h1,fun X v hX=>Ev.step (fun k=>rfl) ?_⟩
            simp only [cO.l3,cO.l3T,decide_eq_true_eq,c1,c2,if_true,hw,hcp,if_false,hrd];exact Ev.no hb (Ev.yes hg (h2 (fun k=>X (k+1)) v (Ev.shift hX)))
          · refine ⟨m3,h3,fun X v hX=>Ev.step (fun k=>rfl) ?_⟩
            simp only [cO.l3,cO.l3T,decide_eq_true_eq,c1,c2,if_true,hw,hcp,if_false,hrd];exact Ev.no hb (Ev.no hg (h4 (fun k=>X (k+1)) v (Ev.shift hX)))
  obtain ⟨gU,q1,q2⟩:=k2 core.length 0 (by omega) (by omega) core (PC.refl _);obtain ⟨kQ,q3,q4⟩:=k3 odd.length 0 (by omega) (by omega) odd (PO.refl _);have m:MF gU kQ:=⟨fun l hl=>by
    rcases q1.mem l hl with e | e
    · have:=mc l e;omega
    · rw [e];simp,fun g hg=>by
    obtain ⟨y,hy,_,e | e⟩:=q3.mem g hg
    · have:=mo y hy;rw [e];omega
    · rw [e];simp⟩
  obtain ⟨n,_,e,f1,f2,f3,f4⟩:=mP (p:=p) (c:=c) m (by rw [q1.len];omega) (by rw [q3.len];omega);refine ⟨gU,kQ,q1,q3,decide (e=0),?_,fun hb=>(f4.1 (of_decide_eq_true hb)).2⟩;unfold cO.f;have g3:=q4 (fun k y13=>(dJ.f k p c gU y13).bind fun aa=>some ((⟨p,c,gU,y13⟩:Fm),decide (aa=0))) _ (Ev.bind f1 (Ev.now _));have g2:=q2 (fun k y9=>cO.l3 (fun y13=>(dJ.f k p c y9 y13).bind fun aa=>some ((⟨p,c,y9,y13⟩:Fm),decide (aa=0))) keep gone odd.length (odd.length:Int) c odd.length k 0 odd) _ g3;have g1:=k1 odd.length 0 (by omega) (by omega) (fun k y8=>cO.l2 (fun y9=>cO.l3 (fun y13=>(dJ.f k p c y9 y13).bind fun aa=>some ((⟨p,c,y9,y13⟩:Fm),decide (aa=0))) keep gone y8.length (y8.length:Int) c y8.length k 0 y8) keep (core.length:Int) core.length k 0 core) _ g2;exact k0 core.length 0 (by omega) (by omega) (fun k y4=>cO.l1 (fun y8=>cO.l2 (fun y9=>cO.l3 (fun y13=>(dJ.f k p c y9 y13).bind fun aa=>some ((⟨p,c,y9,y13⟩:Fm),decide (aa=0))) keep gone y8.length (y8.length:Int) c y8.length k 0 y8) keep (y4.length:Int) y4.length k 0 y4) odd (odd.length:Int) k 0 []) _ g1
theorem adV {x:Fm} (h:sfF x):Ev (fun k=>dL.f k x.f0 x.f1 x.f2 x.f3 x.f0 x.f1 x.f2 x.f3) true:=by
  have hl:=h.hl;have same:∀ l:List Sp,l.length≤4611686018427387904→Ev (fun k=>fu.f k l l) true:=fun l hl=>by
    obtain ⟨r,r1,r2⟩:=uP l l hl;have:=r2.2 rfl;subst this;exact r1
  have k1:∀ (d j:Nat),x.f3.length - j=d→j≤x.f3.length→Ev (fun k=>dL.l1 (some false) (some true) x.f3 x.f3 (x.f3.length:Int) k (j:Int)) true:=by
    intro d;have hlo:x.f3.length≤6000:=h.hlo;induction d with
    | zero =>
      intro j hd hj;obtain rfl:j=x.f3.length:=by omega
      refine Ev.step (f:=fun _=>some true) (fun k => ?_) (Ev.now _);have c1:¬ (x.f3.length:Int)<(x.f3.length:Int):=by omega
      simp only [dL.l1,dL.l1T,decide_eq_true_eq,c1,if_false]
    | succ d ih =>
      intro j hd hj;have hj':j<x.f3.length:=by omega
      have c1:(j:Int)<(x.f3.length:Int):=by omega
      have c2:(0:Int)≤(j:Int):=by omega
      have hw:=nx c1 c2 (by omega);refine Ev.step (fun k=>rfl) ?_;simp only [dL.l1,dL.l1T,decide_eq_true_eq,c1,c2,if_true,hw,rdG _ j hj'];have h1:Ev (fun k=>iB.f k (x.f3[j]).f0 (x.f3[j]).f1 (x.f3[j]).f0 (x.f3[j]).f1) true:=by
        unfold iB.f;exact Ev.yes (by simp) (Ev.bind (same _ (by have:=(h.hodd _ (List.getElem_mem hj')).uH;omega)) (Ev.now _))
      exact Ev.bind h1 (Ev.no (by simp) (ih (j+1) (by omega) (by omega)))
  have k0:∀ (d j:Nat),x.f2.length - j=d→j≤x.f2.length→∀ (X:Nat→Option Bool),Ev X true→Ev (fun k=>dL.l0 (some false) (X k) x.f2 x.f2 (x.f2.length:Int) k (j:Int)) true:=by
    intro d;induction d with
    | zero =>
      intro j hd hj X hX;obtain rfl:j=x.f2.length:=by omega
      refine Ev.step (f:=fun k=>X (k+1)) (fun k => ?_) (Ev.shift hX);have c1:¬ (x.f2.length:Int)<(x.f2.length:Int):=by omega
      simp only [dL.l0,dL.l0T,decide_eq_true_eq,c1,if_false]
    | succ d ih =>
      intro j hd hj X hX;have hj':j<x.f2.length:=by omega
      have c1:(j:Int)<(x.f2.length:Int):=by omega
      have c2:(0:Int)≤(j:Int):=by omega
      have hw:=nx c1 c2 (by omega);refine Ev.step (fun k=>rfl) ?_;simp only [dL.l0,dL.l0T,decide_eq_true_eq,c1,c2,if_true,hw,rdL _ j hj'];exact Ev.bind (same _ (by have:=(h.hcore _ (List.getElem_mem hj')).uH;omega)) (Ev.no (by simp) (ih (j+1) (by omega) (by omega) (fun k=>X (k+1)) (Ev.shift hX)))
  unfold dL.f;refine Ev.yes (by simp) (Ev.yes (by simp) (Ev.no (by simp) ?_));exact k0 x.f2.length 0 (by omega) (by omega) _ (Ev.no (by simp) (k1 x.f3.length 0 (by omega) (by omega)))
theorem afz {x:Fm} (h:cnF x):Ev (fun k=>iZ.f k x.f0 x.f1 x.f2 x.f3) true:=by
  unfold iZ.f;exact Ev.bind (U.aaE h) (Ev.bind (adV h.s) (Ev.now _))
end Go.Proofs.YtcomnjodjijcmaaGreat.Q
namespace Go.Proofs.YtcomnjodjijcmaaGreat.U
set_option linter.unusedVariables false
set_option linter.unusedSimpArgs false
open Go.RowKit Go.Proofs.YtcomnjodjijcmaaGreatW.dB Go.Proofs.YtcomnjodjijcmaaGreatW.eO M R P Q
section
theorem afA {x y g:List Sp} (h1:x=g∨x=[]) (h2:y=g∨y=[]):al x y:=fun a b=>by
  rcases h1 with e | e
  · rcases h2 with f | f
    · rw [e,f]
    · exact absurd f b
  · exact absurd e a
theorem yj {D:List Sp→List Sp→List Sp} (hD:oneOf D) {x y g:List Sp} (h1:x=g∨x=[]) (h2:y=g∨y=[]):D x y=g∨D x y=[]:=by
  rcases hD x y with e | e | e
  · rw [e];exact h1
  · rw [e];exact h2
  · exact .inr e
theorem agR {x y:List Sp} (hx:SL (-1099511627776) 1099511627776 x) (hy:SL (-1099511627776) 1099511627776 y) (h:al x y):qF (fun a b=>a || b) x y=DU x y:=by
  obtain ⟨h1,h2⟩:=pE (fun a b=>a || b) rfl (by omega) (by omega) hx hy;refine SL.uniq h1 (afH.ok (P:=fun l=>SL (-1099511627776) 1099511627776 l) trivial hx hy) fun t => ?_;rw [h2];unfold DU;by_cases ex:x=[]
  · rw [if_pos ex,ex];simp [kF]
  · rw [if_neg ex]
    by_cases ey:y=[]
    · rw [ey];simp [kF]
    · rw [h ex ey];simp
theorem agS {x y:List Sp} (hx:SL (-1099511627776) 1099511627776 x) (hy:SL (-1099511627776) 1099511627776 y) (h:al x y):qF (fun a b=>a&&b) x y=DC x y:=by
  obtain ⟨h1,h2⟩:=pE (fun a b=>a&&b) rfl (by omega) (by omega) hx hy;refine SL.uniq h1 (afI.ok (P:=fun l=>SL (-1099511627776) 1099511627776 l) trivial hx hy) fun t => ?_;rw [h2];unfold DC;by_cases ey:y=[]
  · rw [if_pos ey,ey];simp [kF]
  · rw [if_neg ey]
    by_cases ex:x=[]
    · rw [ex];simp [kF]
    · rw [h ex ey];simp
theorem agT {x y:List Sp} (hx:SL (-1099511627776) 1099511627776 x) (hy:SL (-1099511627776) 1099511627776 y) (h:al x y):qF (fun a b=>a && !b) x y=DL x y:=by
  obtain ⟨h1,h2⟩:=pE (fun a b=>a && !b) rfl (by omega) (by omega) hx hy;refine SL.uniq h1 (afJ.ok (P:=fun l=>SL (-1099511627776) 1099511627776 l) trivial hx hy) fun t => ?_;rw [h2];unfold DL;by_cases ey:y=[]
  · rw [if_pos ey,ey];simp [kF]
  · rw [if_neg ey]
    by_cases ex:x=[]
    · rw [ex];simp [kF]
    · rw [h ex ey];simp [kF]
end
variable [Inhabited WT]
theorem rR (l:List Sp) (hl:l.length≤4611686018427387904):Ev (fun k=>fu.f k l l) true:=by
  obtain ⟨r,r1,r2⟩:=uP l l hl;have:=r2.2 rfl;subst this;exact r1
theorem SetsIndex (p c:Int) (core:List (List Sp)) (odd:List Gn) (ff:ady p c core odd) (keep:Int) (hk:(Lit.int .u8 keep).wf=true) (other:Int) (ho:(Lit.int .u8 other).wf=true) (gone:Int) (hg:(Lit.int .i8 gone).wf=true) (i:Int) (hi:(Lit.int .i16 i).wf=true):∃ k,dx.f k p c core odd keep other gone i=some true:=by
  refine Ev.rounds ?_;unfold dx.f;obtain ⟨na,ah,aj⟩:=afo (p:=p) (c:=c) ff.mf;cases na with
  | false=>exact Ev.bind ah (Ev.yes rfl (Ev.bind nC (Ev.now _)))
  | true =>
  have wa:=aj rfl;obtain ⟨c1,o1,P1,Q1,b1,f1,g1⟩:=acA wa keep gone;obtain ⟨c2,o2,P2,Q2,b2,f2,g2⟩:=acA wa other (wC .i8 (gone+3));refine Ev.bind ah (Ev.no (by simp) (Ev.bind f1 (Ev.bind f2 ?_)));cases b1 with
  | false=>exact Ev.yes rfl (Ev.bind nC (Ev.now _))
  | true =>
  cases b2 with
  | false=>exact Ev.no (by simp) (Ev.yes rfl (Ev.bind nC (Ev.now _)))
  | true =>
  refine Ev.no (by simp) (Ev.no (by simp) ?_);have w1:=wP wa P1 Q1 (g1 rfl);have w2:=wP wa P2 Q2 (g2 rfl);obtain ⟨A,cA,sA⟩:=kY w1.ok.s;obtain ⟨B,cB,sB⟩:=kY w2.ok.s;have a:Sml A:=zJ (O:=⟨p,c,c1,o1⟩) w1 sA;have b:Sml B:=zJ (O:=⟨p,c,c2,o2⟩) w2 sB;have aa:=afw a b;obtain ⟨hf,_⟩:=adS (O:=⟨p,c,c1,o1⟩) (O':=⟨p,c,c2,o2⟩) w1.ok.s w2.ok.s sA sB (P1.len.trans P2.len.symm) rfl;have gA:∀ i,gF A i=gF ⟨p,c,core,odd⟩ i∨gF A i=[]:=fun i=>by
    rw [nU (O:=⟨p,c,c1,o1⟩) w1.ok.s sA];exact acy P1 Q1 i
  have gB:∀ i,gF B i=gF ⟨p,c,core,odd⟩ i∨gF B i=[]:=fun i=>by
    rw [nU (O:=⟨p,c,c2,o2⟩) w2.ok.s sB];exact acy P2 Q2 i
  have hal:rO A B:=⟨hf,fun i _=>by
    rw [uX (O:=⟨p,c,c1,o1⟩) w1.ok.s sA,uX (O:=⟨p,c,c2,o2⟩) w2.ok.s sB];exact afA (acz (odd:=odd) P1 _) (acz (odd:=odd) P2 _),fun i hi=>by
    have:=l6 a.nf b.nf i hi;rw [a.nf.v (by omega) (by omega),b.nf.v (by omega) (by omega)];exact afA (gA i) (gB i)⟩
  have H:=a.nf.of b.nf aa;have oC:ael ⟨p,c,core,odd⟩:=aem wa.ok;obtain ⟨r7,e7,s7⟩:=adO cA cB H (uW afr a.nf b.nf aa);obtain ⟨r8,e8,s8⟩:=agH cA cB H (uW afs a.nf b.nf aa);obtain ⟨r9,e9,s9⟩:=afq cA cB H (uW aft a.nf b.nf aa);obtain ⟨u,ku,gu,rfl,vu⟩:=uY afr a.nf b.nf aa hal s7 oC (fun i=>yj afH (gA i) (gB i));obtain ⟨v,kv,gv,rfl,vv⟩:=uY afs a.nf b.nf aa hal s8 oC (fun i=>yj afI (gA i) (gB i));obtain ⟨w,kw,gw,rfl,vw⟩:=uY aft a.nf b.nf aa hal s9 oC (fun i=>yj afJ (gA i) (gB i));have nu:NF u:=(x9 afr a b hf gu).nf ku;have nv:NF v:=(x9 afs a b hf gv).nf kv;have nw:NF w:=(x9 aft a b hf gw).nf kw;refine Ev.bind e7 (Ev.bind e8 (Ev.bind e9 (Ev.no (by simp) (Ev.no (by simp) (Ev.no (by simp) ?_)))));obtain ⟨j,hj⟩:∃ j,j=Int.tmod (wq i) 300:=⟨_,rfl⟩;have hjb : -300<j∧j<300:=by
    have h1:=Int.tmod_lt_of_pos (wq i) (show (0:Int)<300 by omega);have h2:=Int.lt_tmod_of_pos (wq i) (show (0:Int)<300 by omega);omega
  rw [← hj];have lo:=wa.lo;obtain ⟨asked,ab⟩:∃ asked:List Int,asked=[j,0,-1,1]++odd.map fun g=>g.f0:=⟨_,rfl⟩;have af:∀ x∈asked,-1000≤x∧x≤1000:=fun x hx=>by
    rw [ab] at hx;rcases List.mem_append.1 hx with h | h
    · simp at h;omega
    · obtain ⟨g,hg,rfl⟩:=List.mem_map.1 h
      have:=(wa.ho g hg).1;omega
  have hlen:asked.length=4+odd.length:=by rw [ab];simp;omega
  have last:Ev (fun k=>(iZ.f k u.f0 u.f1 u.f2 u.f3).bind fun t44=>(if t44=true then ((iZ.f k v.f0 v.f1 v.f2 v.f3).bind fun t45=>(if t45=true then ((iZ.f k w.f0 w.f1 w.f2 w.f3).bind fun t46=>(if t46=true then ((eZ.f k).bind fun t47=>(some t47)) else (some false))) else (some false))) else (some false))) true :=
    Ev.bind (afz nu.cn) (Ev.yes rfl (Ev.bind (afz nv.cn) (Ev.yes rfl (Ev.bind (afz nw.cn) (Ev.yes rfl (Ev.bind nC (Ev.now _)))))))
  have k1:∀ (d n:Nat),asked.length - n=d→n≤asked.length→∀ (X:Nat→Option Bool),Ev X true→Ev (fun k=>dx.l1 (some false) (X k) asked (asked.length:Int) p c c1 o1 p c c2 o2 u.f0 u.f1 u.f2 u.f3 v.f0 v.f1 v.f2 v.f3 w.f0 w.f1 w.f2 w.f3 k (n:Int)) true:=by
    intro d;induction d with
    | zero =>
      intro n hd hn X hX;obtain rfl:n=asked.length:=by omega
      refine Ev.step (f:=fun k=>X (k+1)) (fun k => ?_) (Ev.shift hX);have c1:¬ (asked.length:Int)<(asked.length:Int):=by omega
      simp only [dx.l1,dx.l1T,decide_eq_true_eq,c1,if_false]
    | succ d ih =>
      intro n hd hn X hX;have hn':n<asked.length:=by omega
      have q1:(n:Int)<(asked.length:Int):=by omega
      have q2:(0:Int)≤(n:Int):=by omega
      have hw:=nx q1 q2 (by omega);refine Ev.step (fun k=>rfl) ?_;simp only [dx.l1,dx.l1T,decide_eq_true_eq,q1,q2,if_true,hw,rdI _ n hn'];have hr:=af asked[n] (List.getElem_mem hn');generalize asked[n]=x at hr;have va:jW p c c1 o1 x=(gF A x,0):=by
        have e:gF A x=gT p c c1 o1 x:=nU (O:=⟨p,c,c1,o1⟩) w1.ok.s sA x;rw [w1.rQ (by omega),e]
      have vb:jW p c c2 o2 x=(gF B x,0):=by
        have e:gF B x=gT p c c2 o2 x:=nU (O:=⟨p,c,c2,o2⟩) w2.ok.s sB x;rw [w2.rQ (by omega),e]
      have vu':jW u.f0 u.f1 u.f2 u.f3 x=(DU (gF A x) (gF B x),0):=by rw [← vu];exact nu.v (by omega) (by omega)
      have vv':jW v.f0 v.f1 v.f2 v.f3 x=(DC (gF A x) (gF B x),0):=by rw [← vv];exact nv.v (by omega) (by omega)
      have vw':jW w.f0 w.f1 w.f2 w.f3 x=(DL (gF A x) (gF B x),0):=by rw [← vw];exact nw.v (by omega) (by omega)
      refine Ev.bind (jN w1.ok.s x) (Ev.bind (jN w2.ok.s x) (Ev.bind (jN nu.cn.s x) (Ev.bind (jN nv.cn.s x) (Ev.bind (jN nw.cn.s x) ?_))));rw [va,vb,vu',vv',vw'];have la:=a.nf.ln x;have lb:=b.nf.ln x;have hx:=acu a.nf.cn.s (a.nf.tk x (by omega) (by omega));have hy:=acu b.nf.cn.s (b.nf.tk x (by omega) (by omega));have hxy:=afA (gA x) (gB x);have ac:∀ {D:List Sp→List Sp→List Sp},oneOf D→(D (gF A x) (gF B x)).length≤4611686018427387904:=fun {D} hD=>by
        have ak:(D (gF A x) (gF B x)).length≤60:=hD.ok (P:=fun l=>l.length≤60) (by simp) la lb;omega
      have U1:=adU (gF A x) (gF B x) (by omega);have C1:=agQ (gF A x) (gF B x) (by omega);have L1:=afx (gF A x) (gF B x) (by omega);rw [agR hx hy hxy] at U1;rw [agS hx hy hxy] at C1;rw [agT hx hy hxy] at L1;refine Ev.no (by simp) (Ev.no (by simp) (Ev.no (by simp) (Ev.no (by simp) (Ev.no (by simp) ?_))));exact Ev.bind U1 (Ev.bind (rR _ (ac afH)) (Ev.no (by simp) (Ev.bind C1 (Ev.bind (rR _ (ac afI)) (Ev.no (by simp) (Ev.bind L1 (Ev.bind (rR _ (ac afJ)) (Ev.no (by simp) (ih (n+1) (by omega) (by omega) (fun k=>X (k+1)) (Ev.shift hX))))))))))
  have k0:∀ (d n:Nat),odd.length - n=d→n≤odd.length→∀ (X:Nat→List Int→Option Bool),Ev (fun k=>X k asked) true→Ev (fun k=>dx.l0 (X k) odd (odd.length:Int) k ([j,0,-1,1]++(odd.take n).map fun g=>g.f0) (n:Int)) true:=by
    intro d;induction d with
    | zero =>
      intro n hd hn X hX;obtain rfl:n=odd.length:=by omega
      refine Ev.step (f:=fun k=>X (k+1) asked) (fun k => ?_) (Ev.shift hX);have q1:¬ (odd.length:Int)<(odd.length:Int):=by omega
      simp only [dx.l0,dx.l0T,decide_eq_true_eq,q1,if_false,List.take_length];rw [ab]
    | succ d ih =>
      intro n hd hn X hX;have hn':n<odd.length:=by omega
      have q1:(n:Int)<(odd.length:Int):=by omega
      have q2:(0:Int)≤(n:Int):=by omega
      have hw:=nx q1 q2 (by omega);refine Ev.step (fun k=>rfl) ?_;simp only [dx.l0,dx.l0T,decide_eq_true_eq,q1,q2,if_true,hw,Q.rdG _ n hn'];refine Ev.yes (by simp;omega) ?_;have:=ih (n+1) (by omega) (by omega) (fun k=>X (k+1)) (Ev.shift hX);rw [List.take_succ_eq_append_getElem hn',List.map_append,← List.append_assoc] at this;exact this
  exact k0 odd.length 0 (by omega) (by omega) (fun k ai=>dx.l1 (some false) ((iZ.f k u.f0 u.f1 u.f2 u.f3).bind fun t44=>(if t44=true then ((iZ.f k v.f0 v.f1 v.f2 v.f3).bind fun t45=>(if t45=true then ((iZ.f k w.f0 w.f1 w.f2 w.f3).bind fun t46=>(if t46=true then ((eZ.f k).bind fun t47=>(some t47)) else (some false))) else (some false))) else (some false))) ai (ai.length:Int) p c c1 o1 p c c2 o2 u.f0 u.f1 u.f2 u.f3 v.f0 v.f1 v.f2 v.f3 w.f0 w.f1 w.f2 w.f3 k 0) (k1 asked.length 0 (by omega) (by omega) _ last)
end Go.Proofs.YtcomnjodjijcmaaGreat.U
namespace Go.Proofs.YtcomnjodjijcmaaGreat.setsIndex
open Go.ChangeShapes Go.WideShapes Go.ChangeAt Go.RowKit
open Go.ChangeMaps (open_string shut_string)
set_option linter.unusedVariables false
theorem own:ownKnob Tryz.prog.godebug=none:=by kernel_rfl
theorem laidOut:laidOutB Tryz.prog=true:=by kernel_rfl
set_option maxRecDepth 100000 in
theorem lifted (os:Os) (started:os.Started) (H:Type) (enc:TypeId × Value→H) :
    ReturnsInHanded {} Tryz.checked os 7 .any (Rows.setsIndexSpec.pre6 enc Tryz.prog Tryz.f7 Rows.setsIndexRow.domain false) (Rows.setsIndexSpec.post enc Tryz.prog Tryz.f7 false true false false):=by
  refine returnsInHanded_of_change_sized (C:=Tryz.checked) own started (by kernel_rfl) Tryz.func7
    (ChangeSpec.witness6 (enc:=enc) (C:=Tryz.checked) false ⟨#[],#[.agg #[.int .i64 0,.int .i64 0,.slice none 0 0,.slice none 0 0],.int .u8 0,.int .u8 0,.int .i8 0,.int .i16 0],[]⟩ 8 (by kernel_rfl) (by kernel_rfl) (by kernel_rfl) (by kernel_rfl)) ?_
  intro W base args ds gs before hval0 hW hcnd hsz0 _;have hval:∀ (j:Nat) t v,Tryz.f7.params[j]? = some t→args[j]? = some v→Value.okWide Tryz.prog W .any base t v:=hval0;have hW':=hW;obtain ⟨p,q,ah,hV,rfl,hfz,hnd⟩:=hW;have hA:DataW.TrodAll enc Tryz.prog W 0 (fun _=>true) true Tryz.f7.params.toList args.toList ds p:=ah;rw [Tryz.params7] at hA hval;obtain ⟨v0,aw,d0,ds0,p0,q0,hargs,rfl,rfl,h0,r0⟩:=trodAll_cons hA;obtain ⟨v1,vs1,d1,ds1,p1,q1,rfl,rfl,rfl,h1,r1⟩:=trodAll_cons r0;obtain ⟨v2,vs2,d2,ax,p2,q2,rfl,rfl,rfl,h2,r2⟩:=trodAll_cons r1;obtain ⟨v3,vs3,d3,ds3,p3,q3,rfl,rfl,rfl,h3,r3⟩:=trodAll_cons r2;obtain ⟨v4,ay,d4,az,p4,q4,rfl,rfl,rfl,h4,r4⟩:=trodAll_cons r3;obtain ⟨rfl,rfl,rfl⟩:=trodAll_nil r4;obtain rfl:args=#[v0,v1,v2,v3,v4]:=by cases args;simp_all
  obtain ⟨rfl,rfl⟩:=trodVars_none hV;have k0:=h0;have ak:∀ x∈p0,x.block<W.heap.size:=by obtain ⟨m,hm⟩:=k0;exact DataW.trod_lt m _ _ _ hm
  obtain ⟨aa,ab,aA,aB,ac,aC,aD,af,rfl,am,ao,ap,aq,au⟩:=P.abR (hval 0 25 v0 rfl rfl) h0;obtain ⟨a1,rfl,rfl,rfl,w1⟩:=open_int Tryz.underlying5 (hval 1 5 v1 rfl rfl) h1;obtain ⟨a2,rfl,rfl,rfl,w2⟩:=open_int Tryz.underlying5 (hval 2 5 v2 rfl rfl) h2;obtain ⟨a3,rfl,rfl,rfl,w3⟩:=open_int Tryz.underlying46 (hval 3 46 v3 rfl rfl) h3;obtain ⟨a4,rfl,rfl,rfl,w4⟩:=open_int Tryz.underlying36 (hval 4 36 v4 rfl rfl) h4;clear ah hval0 hsz0;obtain ⟨kk,hP⟩:=U.SetsIndex aa ab ac af au a1 w1 a2 w2 a3 w3 a4 w4;refine (M.abO (R.dx.ok kk) (W:=W) (a:=((⟨aa,ab,ac,af⟩:P.S25),a1,a2,a3,a4,())) (vs:=[.agg #[.int .i64 aa,.int .i64 ab,.slice _ ac.length _,.slice _ af.length _],.int .u8 a1,.int .u8 a2,.int .i8 a3,.int .i16 a4]) ⟨⟨_,M.fm0 _ _ am ao ap aq,rfl⟩,⟨⟨_,rfl,rfl⟩,⟨⟨_,rfl,rfl⟩,⟨⟨_,rfl,rfl⟩,⟨⟨_,rfl,rfl⟩,trivial⟩⟩⟩⟩⟩ hP).mono fun e W' ⟨he,aj⟩ => ?_;have ai:=aj;subst he;exact ⟨_,rfl,_,_,_,[],_,[],hW',trodAll_mk1 (shut_bool Tryz.underlying4 _),(trodAll_cons_mk (Below.trod laidOut (by kernel_rfl) (of_decide_eq_true (by kernel_rfl)) k0 ai ak) (trodAll_cons_mk (shut_int Tryz.underlying5 w1) (trodAll_cons_mk (shut_int Tryz.underlying5 w2) (trodAll_cons_mk (shut_int Tryz.underlying46 w3) (trodAll_cons_mk (shut_int Tryz.underlying36 w4) trodAll_mk0))))),rfl,ai.frame _,fun h=>by cases h⟩
theorem over:Rows.setsIndexRow.holds Tryz.pinned (OpenSpec.ofChange Rows.setsIndexSpec) :=
  OpenClaim.holds_of_wide 7 Tryz.f7 rfl rfl rfl rfl rfl rfl rfl ⟨rfl,rfl,rfl,rfl,rfl⟩ rfl rfl rfl rfl rfl (by kernel_rfl) Tryz.func7 (by kernel_rfl)
    (of_decide_eq_true (by kernel_rfl)) (by unfold Func.isWrapper;first | (rw [if_pos (by decide +kernel)];kernel_rfl) | (rw [if_neg (by decide +kernel)];exact ⟨rfl,rfl⟩))
    (fun os started H enc _=>lifted os started H enc)
theorem proved:Rows.SetsIndexSaid:=over
#print axioms proved
end Go.Proofs.YtcomnjodjijcmaaGreat.setsIndex
namespace Go.Proofs.YtcomnjodjijcmaaGreat
theorem setsIndex_holds:Rows.SetsIndexSaid:=setsIndex.proved
end Go.Proofs.YtcomnjodjijcmaaGreat
