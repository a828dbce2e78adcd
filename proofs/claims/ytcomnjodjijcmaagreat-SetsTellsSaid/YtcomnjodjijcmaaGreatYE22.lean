/- Lemmas for laws of chapter 7: what the functions that they reach compute. No condition of its own. -/
import Derived.Test.YtcomnjodjijcmaaGreatYE21
import Derived.Test.YtcomnjodjijcmaaGreatYE20
namespace Go.Proofs.YtcomnjodjijcmaaGreat.Q
set_option linter.unusedVariables false
set_option linter.unusedSimpArgs false
open Go.RowKit Go.Proofs.YtcomnjodjijcmaaGreatW.dz Go.Proofs.YtcomnjodjijcmaaGreatW.eD M R P
section
def okL (l:List Sp):Prop:=∀ s∈l,-100000000≤s.f0∧s.f1≤100000000
theorem abQ:okL []:=fun s h=>by simp at h
structure NF (A:Fm):Prop where
  cn:cnF A
  gr:grF A
  lc:A.f2.length≤144
  lo:A.f3.length≤16
  hp:A.f0≤10000
  ix:∀ g∈A.f3,-100≤g.f0∧g.f0≤100
  tk:∀ i,-6000≤i→i≤6000→okL (gF A i)
  tb:∀ i,-6000≤i→i≤6000→okL (bF A i)
  ln:∀ i,(gF A i).length≤60
  lb:∀ i,(bF A i).length≤60
theorem SL.tight {lo hi lo' hi':Int}:∀ {l:List Sp},SL lo hi l→(∀ s∈l,lo'≤s.f0∧s.f1≤hi')→SL lo' hi' l
  | [],_,_=>trivial
  | s :: r,⟨h1,h2,h3,h4⟩,h=>⟨(h s (by simp)).1,h2,(h s (by simp)).2,SL.tight h4 (fun t ht=>⟨(SL.ticks h4 ht).1,(h t (by simp [ht])).2⟩)⟩
theorem aeR {A:Fm} (h:sfF A) {i:Int} (hk:okL (gF A i)):SL (-1099511627776) 1099511627776 (gF A i):=by
  have:=SL.shift (lo:=0) (fb A.f0 A.f1 A.f3 i) (h.sS i);exact SL.tight this (fun s hs=>by have:=hk s hs;omega)
theorem afT {A:Fm} (h:sfF A) {i:Int} (hk:okL (bF A i)):SL (-1099511627776) 1099511627776 (bF A i):=by
  have e:bF A i=gT A.f0 A.f1 A.f2 [] i:=(nN i).symm;rw [e] at hk ⊢;have:=SL.shift (lo:=0) (fb A.f0 A.f1 [] i) (h.abd.sS i);exact SL.tight this (fun s hs=>by have:=hk s hs;omega)
theorem afU {A:Fm} (h:sfF A) {i:Int} (hr:inR i) (hk:okL (gF A i)):vF A i=(gF A i,0):=by
  unfold vF;rw [lV,if_pos hr];by_cases hn:gT A.f0 A.f1 A.f2 A.f3 i=[]
  · rw [if_pos hn]
    unfold gF;rw [hn]
  · rw [if_neg hn]
    unfold mvT;rw [if_pos]
    · rfl
    · refine List.all_eq_true.2 fun s hs=>qy.2 ?_
      have:=hk s hs;have:=SL.ticks (aeR h hk) hs;omega
theorem lg {i:Int} (h : -100000000≤i∧i≤100000000):inR i:=by unfold inR;omega
theorem NF.v {A:Fm} (h:NF A) {i:Int} (h1 : -6000≤i) (h2:i≤6000):vF A i=(gF A i,0):=afU h.cn.s (lg (by omega)) (h.tk i h1 h2)
theorem NF.ga {A:Fm} (h:NF A):A.f2≠[]→∃ l∈A.f2,l≠[]:=fun hn=>Classical.byContradiction fun hx=>h.cn.nb hn fun l hl=>Classical.byContradiction fun hl2=>hx ⟨l,hl,hl2⟩
theorem lq {A B:Fm} (a:NF A) (b:NF B):∀ i∈iK A B,-100≤i∧i≤100:=fun i hi=>by
  rcases qE.1 hi with ⟨g,hg,rfl⟩ | ⟨g,hg,rfl⟩
  · exact a.ix g hg
  · exact b.ix g hg
theorem aeS {A B:Fm} (a:NF A) (b:NF B) (hn:nF A B≤144):0≤tF A B∧tF A B≤1440000:=by
  have p1:=a.cn.s.hp0;have p2:=b.cn.s.hp0;have q1:=a.hp;have q2:=b.hp;unfold tF rt;split
  · omega
  · have hq:rn A.f2.length B.f2.length / A.f2.length≤144:=Nat.le_trans (Nat.div_le_self _ _) hn
    generalize rn A.f2.length B.f2.length / A.f2.length=q at hq;have h1:A.f0*(q:Int)≤10000*(q:Int):=Int.mul_le_mul_of_nonneg_right q1 (by omega);have h2:0≤A.f0*(q:Int):=Int.mul_nonneg p1 (by omega);omega
theorem NF.of {A B:Fm} (a:NF A) (b:NF B) (hn:nF A B≤144):OfH A B:=by
  have t1:=aeS a b hn;have t2:=aeS b a (by rw [oC];exact hn);have:=a.lo;have:=b.lo;have:=a.hp;have:=b.hp;exact ⟨a.cn.s,b.cn.s,a.ga,b.ga,by omega,by omega,by omega,by omega,by omega,fun i h1 h2 s hs=>by have:=a.tb i (by omega) (by omega) s hs;omega,fun i h1 h2 s hs=>by have:=b.tb i (by omega) (by omega) s hs;omega,by omega⟩
theorem oneOf.ok {D:List Sp→List Sp→List Sp} (h:oneOf D) {P:List Sp→Prop} (h0:P []) {x y:List Sp} (hx:P x) (hy:P y):P (D x y):=by
  rcases h x y with e | e | e
  · rw [e];exact hx
  · rw [e];exact hy
  · rw [e];exact h0
theorem jS {D:List Sp→List Sp→List Sp} (hD:vN D) {A B:Fm} (a:NF A) (b:NF B) (hn:nF A B≤144):kS (fM D A B).f2 (fM D A B).f3≤60000:=by
  have h1:(((fM D A B).f2).map fun l=>(l.length:Int)).sum≤((fM D A B).f2.length:Int)*60:=vG _ 60 (fun l hl=>by
    obtain ⟨i,_,rfl⟩:=List.mem_map.1 hl;have aa:(D (bF A (i:Int)) (bF B (i:Int))).length≤60:=hD.one.ok (P:=fun l=>l.length≤60) (by simp) (a.lb (i:Int)) (b.lb (i:Int));show ((D (bF A (i:Int)) (bF B (i:Int))).length:Int)≤60;omega)
  have h2:(((fM D A B).f3).map fun g=>(g.f1.length:Int)).sum≤((fM D A B).f3.length:Int)*60:=vG _ 60 (fun g hg=>by
    obtain ⟨i,hi,rfl⟩:=List.mem_map.1 hg;have hr:=lq a b i hi;have e1:=a.v (i:=i) (by omega) (by omega);have e2:=b.v (i:=i) (by omega) (by omega);have aa:(D (gF A i) (gF B i)).length≤60:=hD.one.ok (P:=fun l=>l.length≤60) (by simp) (a.ln i) (b.ln i);show ((D (vF A i).1 (vF B i).1).length:Int)≤60;rw [e1,e2];show ((D (gF A i) (gF B i)).length:Int)≤60;omega)
  have l1:(fM D A B).f2.length=nF A B:=by simp [fM]
  have l2:(fM D A B).f3.length=(iK A B).length:=by simp [fM]
  have:=mX A B;have:=a.lo;have:=b.lo;have e:kS (fM D A B).f2 (fM D A B).f3=(((fM D A B).f2).map fun l=>(l.length:Int)).sum+(((fM D A B).f3).map fun g=>(g.f1.length:Int)).sum:=rfl;rw [e];rw [l1] at h1;rw [l2] at h2;omega
theorem lC {D:List Sp→List Sp→List Sp} (hD:vN D) {A B:Fm} (a:NF A) (b:NF B) (hn:nF A B≤144):sfF (fM D A B):=by
  have t1:=aeS a b hn;have l1:(fM D A B).f2.length=nF A B:=by simp [fM]
  have l2:(fM D A B).f3.length=(iK A B).length:=by simp [fM]
  have hil:=mX A B;have:=a.lo;have:=b.lo;refine ⟨by rw [l1];rfl,t1.1,by show tF A B≤_;omega,?_,fun l hl => ?_,fun g hg => ?_,fun g hg => ?_,?_,by omega,by omega⟩
  · show (nF A B:Int)=0↔tF A B=0
    constructor
    · intro h
      obtain ⟨e1,e2⟩:=abN (show rn A.f2.length B.f2.length=0 from by have h:(nF A B:Int)=0:=h;unfold nF at h;omega);unfold tF rt;rw [if_pos e1];exact b.cn.s.hz.1 (by rw [b.cn.s.hc,e2];rfl)
    · intro h
      refine Classical.byContradiction fun hne => ?_;unfold tF rt at h;split at h
      · rename_i e1
        have hb:(B.f2.length:Int)=0:=by rw [← b.cn.s.hc];exact b.cn.s.hz.2 h
        exact hne (by unfold nF rn;rw [if_pos e1];exact hb)
      · rename_i e1
        have hq:1≤rn A.f2.length B.f2.length / A.f2.length:=(Nat.one_le_div_iff (by omega)).2 (Nat.le_of_dvd (by have hne:¬ (nF A B:Int)=0:=hne;unfold nF at hne;omega) (adG e1));have hp:A.f0≠0:=fun e=>e1 (by have:=a.cn.s.hz.2 e;rw [a.cn.s.hc] at this;omega);rcases Int.mul_eq_zero.1 h with e | e
        · exact hp e
        · omega
  · obtain ⟨i,hi,rfl⟩:=List.mem_map.1 hl
    have hi':=List.mem_range.1 hi;exact hD.one.ok (P:=fun l=>SL (-1099511627776) 1099511627776 l) trivial (afT a.cn.s (a.tb _ (by omega) (by omega))) (afT b.cn.s (b.tb _ (by omega) (by omega)))
  · obtain ⟨i,hi,rfl⟩:=List.mem_map.1 hg
    have hr:=lq a b i hi;have e1:=a.v (i:=i) (by omega) (by omega);have e2:=b.v (i:=i) (by omega) (by omega);show SL _ _ (D (vF A i).1 (vF B i).1);rw [e1,e2];exact hD.one.ok (P:=fun l=>SL (-1099511627776) 1099511627776 l) trivial (aeR a.cn.s (a.tk _ (by omega) (by omega))) (aeR b.cn.s (b.tk _ (by omega) (by omega)))
  · obtain ⟨i,hi,rfl⟩:=List.mem_map.1 hg
    have hr:=lq a b i hi;exact lg (by simp only;omega)
  · show ((iK A B).map fun i=>(⟨i,D (vF A i).1 (vF B i).1⟩:Gn)).Pairwise _
    rw [List.pairwise_map];exact yK A B
def aeT (A:Fm):Prop:=∀ i k,i<k→inR i→inR k→gF A i≠[]→gF A k≠[]→kT (gF A i)<kJ (gF A k)
theorem afV {A:Fm} (h:FOK A.f0 A.f1 A.f2 A.f3):aeT A:=fun i k hik ri rk hi hk=>by
  have n1:fs A.f1 A.f2 A.f3 i≠[]:=lF.2 hi;have n2:fs A.f1 A.f2 A.f3 k≠[]:=lF.2 hk;have:=h.ord i k hik ri rk n1 n2;have q1:=(kD (p:=A.f0) n1).2.2;have q2:=(kD (p:=A.f0) n2).2.1;unfold gF;omega
end
end Go.Proofs.YtcomnjodjijcmaaGreat.Q
namespace Go.Proofs.YtcomnjodjijcmaaGreat.Q
set_option linter.unusedVariables false
set_option linter.unusedSimpArgs false
open Go.RowKit Go.Proofs.YtcomnjodjijcmaaGreatW.dz Go.Proofs.YtcomnjodjijcmaaGreatW.eD M R P
section
theorem qG {O h:Fm} (so:sfF O) (s:abI O h) (i:Int):gF h i=gF O i:=vM.ac7 so s i
theorem tX {O h:Fm} (so:sfF O) (s:abI O h) (i:Int):bF h i=bF O i:=by
  have:=s.c.ticks so i;rw [nN,nN] at this;exact this
theorem pF {O h:Fm} (so:sfF O) (s:abI O h):h.f2.length≤O.f2.length∧h.f3.length≤O.f3.length∧h.f0≤O.f0∧(h.f2=[]∨(h.f2.length ∣ O.f2.length∧O.f2.length≠0∧h.f0*((O.f2.length / h.f2.length:Nat):Int)=O.f0)):=by
  have ho:h.f3.length≤O.f3.length:=by rw [s.o];exact List.length_filter_le _ _
  by_cases hb:∀ l∈O.f2,l=[]
  · have e:=s.c.e hb
    have e2:h.f2=[]:=congrArg (fun x:Fm=>x.f2) e;have e0:h.f0=0:=congrArg (fun x:Fm=>x.f0) e;exact ⟨by rw [e2];simp,ho,by rw [e0];exact so.hp0,.inl e2⟩
  · obtain ⟨d,rp,_,e⟩:=s.c.n hb
    have e2:h.f2=O.f2.take d:=congrArg (fun x:Fm=>x.f2) e;have e0:h.f0=O.f0 / ((O.f2.length / d:Nat):Int):=congrArg (fun x:Fm=>x.f0) e;have hne:O.f2.length≠0:=fun e=>hb fun l hl=>by rw [List.length_eq_zero_iff.1 e] at hl;simp at hl
    have hd:d≤O.f2.length:=Nat.le_of_dvd (by omega) rp.d1;have el:h.f2.length=d:=by rw [e2,List.length_take];omega
    refine ⟨by omega,ho,?_,.inr ⟨by rw [el];exact rp.d1,hne,?_⟩⟩
    · rw [e0]
      exact Int.ediv_le_self _ so.hp0
    · rw [el,e0]
      exact Int.ediv_mul_cancel rp.d2
structure af6 (O:Fm):Prop where
  s:sfF O
  g:grF O
  lc:O.f2.length≤144
  lo:O.f3.length≤16
  hp:O.f0≤10000
  ix:∀ g∈O.f3,-100≤g.f0∧g.f0≤100
  tk:∀ i,-6000≤i→i≤6000→okL (gF O i)
  tb:∀ i,-6000≤i→i≤6000→okL (bF O i)
  ln:∀ i,(gF O i).length≤60
  lb:∀ i,(bF O i).length≤60
theorem af6.nf {O h:Fm} (H:af6 O) (s:abI O h):NF h:=by
  obtain ⟨l1,l2,l3,_⟩:=pF H.s s;have:=H.lc;have:=H.lo;have:=H.hp;exact ⟨s.can H.s,s.gr H.g,by omega,by omega,by omega,fun g hg=>H.ix g (by rw [s.o] at hg;exact (List.mem_filter.1 hg).1),fun i h1 h2=>by rw [qG H.s s];exact H.tk i h1 h2,fun i h1 h2=>by rw [tX H.s s];exact H.tb i h1 h2,fun i=>by rw [qG H.s s];exact H.ln i,fun i=>by rw [tX H.s s];exact H.lb i⟩
theorem adi {O:Fm} (w:mW O.f0 O.f1 O.f2 O.f3):af6 O:=by
  have:=w.lc;have:=w.lo;have p60:=w.p60;have p0:=w.ok.s.hp0;have sz:=w.sz;have sb:kS O.f2 []≤kS O.f2 O.f3:=by
    unfold kS;have:0≤(O.f3.map fun g=>(g.f1.length:Int)).sum:=qB (fun x hx=>by obtain ⟨g,_,rfl⟩:=List.mem_map.1 hx;omega);simp only [List.map_nil,List.sum_nil,Int.add_zero];exact Int.le_add_of_nonneg_right this
  refine ⟨w.ok.s,w.gr,by omega,by omega,by omega,fun g hg=>(w.ho g hg).1,fun i h1 h2 s hs => ?_,fun i h1 h2 s hs => ?_,fun i => ?_,fun i => ?_⟩
  · have:=w.th (i:=i) (by omega) s (by unfold thV;rw [w.abP (by omega)];exact hs)
    omega
  · obtain ⟨s0,hs0,rfl⟩:=List.mem_map.1 hs
    by_cases hc:O.f1=0
    · unfold fO at hs0
      rw [if_pos hc] at hs0;simp at hs0
    · have hm:=w.ok.s.jq i hc
      have hS:=w.ok.s.hcore _ hm;have b:=hS.between hs0;have q:=w.hc _ hm (fun e=>by rw [e] at hs0;simp at hs0);have hc0:=w.ok.s.hc;have d:=ag6 (i:=i) (c:=O.f1) (by omega) (by omega);have m1:i / O.f1*O.f0≤6000*O.f0:=Int.mul_le_mul_of_nonneg_right d.2 p0;have m2 : -6000*O.f0≤i / O.f1*O.f0:=Int.mul_le_mul_of_nonneg_right d.1 p0;simp only [eO];omega
  · have:=abA w.ok.s i
    unfold gF;omega
  · have:=abA w.ok.s.abd i
    have e:bF O i=gT O.f0 O.f1 O.f2 [] i:=(nN i).symm;rw [e];omega
structure Sml (A:Fm):Prop where
  nf:NF A
  c:A.f2.length≤12
  o:A.f3.length≤8
  p:A.f0≤60
theorem yM {O h:Fm} (w:mW O.f0 O.f1 O.f2 O.f3) (s:abI O h):Sml h:=by
  obtain ⟨l1,l2,l3,_⟩:=pF w.ok.s s;have:=w.lc;have:=w.lo;have:=w.p60;exact ⟨(adi w).nf s,by omega,by omega,by omega⟩
theorem afW (a b:Nat):Nat.lcm a b≤a*b:=Nat.div_le_self _ _
theorem abR {A B:Fm} (a:Sml A) (b:Sml B):nF A B≤144:=by
  have:=a.c;have:=b.c;unfold nF rn;split
  · omega
  · split
    · omega
    · exact Nat.le_trans (afW _ _) (Nat.mul_le_mul a.c b.c)
theorem ahc {A B:Fm} (a:Sml A) (b:Sml B):tF A B≤10000:=by
  have hn:=abR a b;have:=a.p;have:=b.p;unfold tF rt;split
  · omega
  · have hq:rn A.f2.length B.f2.length / A.f2.length≤144:=Nat.le_trans (Nat.div_le_self _ _) hn
    generalize rn A.f2.length B.f2.length / A.f2.length=q at hq;have h1:A.f0*(q:Int)≤60*(q:Int):=Int.mul_le_mul_of_nonneg_right a.p (by omega);omega
variable {D:List Sp→List Sp→List Sp} {A B:Fm}
theorem NF.rP (hD:vN D) (a:NF A) (b:NF B) (hf:mG A B) (i:Int):gF (fM D A B) i=D (gF A i) (gF B i) :=
  Q.rP hD a.cn.s b.cn.s hf (fun i hi=>by have:=lq a b i hi;rw [a.v (by omega) (by omega)]) (fun i hi=>by have:=lq a b i hi;rw [b.v (by omega) (by omega)]) i
theorem adH (a:NF A) (b:NF B):∀ g∈(fM D A B).f3,-100≤g.f0∧g.f0≤100:=fun g hg=>by
  obtain ⟨i,hi,rfl⟩:=List.mem_map.1 hg;exact lq a b i hi
theorem adI (hD:vN D) (a:NF A) (b:NF B) (hf:mG A B):∀ i,-6000≤i→i≤6000→okL (gF (fM D A B) i):=fun i h1 h2=>by
  rw [a.rP hD b hf];exact hD.one.ok abQ (a.tk i h1 h2) (b.tk i h1 h2)
theorem vK:(fM D A B).f2.length=nF A B:=by simp [fM]
theorem afX:(fM D A B).f3.length≤A.f3.length+B.f3.length:=by
  have:(fM D A B).f3.length=(iK A B).length:=by simp [fM]
  have:=mX A B;omega
theorem abS (hD:vN D) (a:Sml A) (b:Sml B) (hf:mG A B) (g:grF (fM D A B)):af6 (fM D A B):=by
  have hn:=abR a b;have:=afX (D:=D) (A:=A) (B:=B);have:=a.o;have:=b.o;exact ⟨lC hD a.nf b.nf hn,g,by rw [vK];exact hn,by omega,ahc a b,adH a.nf b.nf,adI hD a.nf b.nf hf,fun i h1 h2=>by
    rw [vJ hD a.nf.cn.s b.nf.cn.s hf];exact hD.one.ok abQ (a.nf.tb i h1 h2) (b.nf.tb i h1 h2),fun i=>by
    rw [a.nf.rP hD b.nf hf];exact hD.one.ok (P:=fun l=>l.length≤60) (by simp) (a.nf.ln i) (b.nf.ln i),fun i=>by
    rw [vJ hD a.nf.cn.s b.nf.cn.s hf];exact hD.one.ok (P:=fun l=>l.length≤60) (by simp) (a.nf.lb i) (b.nf.lb i)⟩
theorem NF.ord (a:NF A):aeT A:=afV a.gr.fok
end
end Go.Proofs.YtcomnjodjijcmaaGreat.Q
namespace Go.Proofs.YtcomnjodjijcmaaGreat.Q
set_option linter.unusedVariables false
set_option linter.unusedSimpArgs false
open Go.RowKit Go.Proofs.YtcomnjodjijcmaaGreatW.dz Go.Proofs.YtcomnjodjijcmaaGreatW.eD M R P
section
variable {p c:Int} {core:List (List Sp)} {odd:List Gn}
theorem ah9 (h:SF p c core odd) (j:Nat) (hj:j<core.length):fO c core (j:Int)=core[j]∧(j:Int) / c*p=0:=by
  have hc:=h.hc;refine ⟨?_,?_⟩
  · unfold fO
    rw [if_neg (by omega),Int.emod_eq_of_lt (by omega) (by omega),Int.toNat_natCast,List.getD_eq_getElem?_getD,List.getElem?_eq_getElem hj];rfl
  · rw [Int.ediv_eq_zero_of_lt (by omega) (by omega),Int.zero_mul]
theorem at_next (h:SF p c core odd) (j:Nat) (hj:j<core.length):fO c core ((j:Int)+c)=core[j]∧((j:Int)+c) / c*p=p:=by
  have hc:=h.hc;obtain ⟨e1,_⟩:=ah9 h j hj;refine ⟨?_,?_⟩
  · rw [← e1]
    unfold fO;rw [Int.add_emod_right]
  · rw [Int.add_ediv_of_dvd_right (Int.dvd_refl c),Int.ediv_self (by omega),Int.ediv_eq_zero_of_lt (by omega) (by omega)]
    omega
end
variable [Inhabited WT]
variable {p c:Int} {core:List (List Sp)} {odd:List Gn}
theorem ahH {a b:List Sp} (ha:SL (-1099511627776) 1099511627776 a) (hb:SL (-1099511627776) 1099511627776 b) (x y:Int) (hx : -4611686018427387904≤x∧x≤4611686018427387904) (hy : -4611686018427387904≤y∧y≤4611686018427387904):∃ r,Ev (fun k=>agt.f k a x b y) r∧(r=true↔b=a.map (eO (x - y))):=by
  unfold agt.f;have la:=ha.vE;by_cases e:a.length=b.length
  case neg=>exact ⟨false,Ev.yes (by simp;omega) (Ev.now _),fun q=>(by cases q),fun q=>absurd ((o9 (x - y)).1 q).1 e⟩
  have key:∀ (d m:Nat),a.length - m=d→m≤a.length→(∀ j (h1:j<a.length) (h2:j<b.length),j<m→b[j].f0 - a[j].f0=x - y∧b[j].f1 - a[j].f1=x - y)→∃ r,Ev (fun k=>agt.l0 (some false) (some true) a x b y k (m:Int)) r∧(r=true↔b=a.map (eO (x - y))):=by
    intro d;induction d with
    | zero =>
      intro m hd hm hi;refine ⟨true,Ev.step (fun k=>rfl) ?_,fun _=>(o9 _).2 ⟨e,fun j h1 h2=>hi j h1 h2 (by omega)⟩,fun _=>rfl⟩;have c1:¬ (m:Int)<(a.length:Int):=by omega
      simp only [agt.l0,agt.l0T,decide_eq_true_eq,c1,if_false];exact Ev.now _
    | succ d ih =>
      intro m hd hm hi;have h1:m<a.length:=by omega
      have h2:m<b.length:=by omega
      have c1:(m:Int)<(a.length:Int):=by omega
      have c2:(0:Int)≤(m:Int):=by omega
      have c3:(m:Int)<(b.length:Int):=by omega
      have hw:wq ((m:Int)+1)=((m+1:Nat):Int):=by rw [iJ (by omega) (by omega)];simp
      have ta:=SL.ticks ha (List.getElem_mem h1);have tb:=SL.ticks hb (List.getElem_mem h2);have w1:wq (a[m].f0+x)=a[m].f0+x:=iJ (by omega) (by omega);have w2:wq (a[m].f1+x)=a[m].f1+x:=iJ (by omega) (by omega);have w3:wq (b[m].f0+y)=b[m].f0+y:=iJ (by omega) (by omega);have w4:wq (b[m].f1+y)=b[m].f1+y:=iJ (by omega) (by omega);by_cases q1:b[m].f0 - a[m].f0=x - y
      · by_cases q2:b[m].f1 - a[m].f1=x - y
        · obtain ⟨r,r1,r2⟩:=ih (m+1) (by omega) (by omega) (fun j g1 g2 hj=>by
            rcases Nat.lt_or_ge j m with g | g
            · exact hi j g1 g2 g
            · have:j=m:=by omega
              subst this;exact ⟨q1,q2⟩)
          refine ⟨r,Ev.step (fun k=>rfl) ?_,r2⟩;simp only [agt.l0,agt.l0T,decide_eq_true_eq,c1,c2,c3,if_true,hw,abZ a m h1,abZ b m h2,w1,w2,w3,w4];exact Ev.no (by simp;omega) (Ev.no (by simp;omega) r1)
        · refine ⟨false,Ev.step (fun k=>rfl) ?_,fun z=>(by cases z),fun z=>absurd (((o9 _).1 z).2 m h1 h2).2 q2⟩
          simp only [agt.l0,agt.l0T,decide_eq_true_eq,c1,c2,c3,if_true,hw,abZ a m h1,abZ b m h2,w1,w2,w3,w4];exact Ev.no (by simp;omega) (Ev.yes (by simp;omega) (Ev.now _))
      · refine ⟨false,Ev.step (fun k=>rfl) ?_,fun z=>(by cases z),fun z=>absurd (((o9 _).1 z).2 m h1 h2).1 q1⟩
        simp only [agt.l0,agt.l0T,decide_eq_true_eq,c1,c2,c3,if_true,hw,abZ a m h1,abZ b m h2,w1,w2,w3,w4];exact Ev.yes (by simp;omega) (Ev.now _)
  obtain ⟨r,r1,r2⟩:=key a.length 0 (by omega) (by omega) (fun j _ _ h=>by omega);exact ⟨r,Ev.no (by simp [e]) r1,r2⟩
theorem aht {β:Type} (x0 x1:β) (hl:core.length≤6000):∃ b:Bool,Ev (fun k=>agx.l0 (some x0) (some x1) core k 0) (if b then x1 else x0)∧(b=true↔∀ l∈core,l=[]):=by
  have key:∀ (rest pre:List (List Sp)),core=pre++rest→(∀ l∈pre,l=[])→∃ b:Bool,Ev (fun k=>agx.l0 (some x0) (some x1) core k (pre.length:Int)) (if b then x1 else x0)∧(b=true↔∀ l∈core,l=[]):=by
    intro rest;induction rest with
    | nil =>
      intro pre hp he;refine ⟨true,Ev.step (f:=fun _=>some x1) (fun k => ?_) (Ev.now _),?_⟩
      · have c1:¬ (pre.length:Int)<(core.length:Int):=by rw [hp];simp
        simp only [agx.l0,agx.l0T,decide_eq_true_eq,c1,if_false]
      · simp only [List.append_nil] at hp
        subst hp;exact ⟨fun _=>he,fun _=>rfl⟩
    | cons l r ih =>
      intro pre hp he;have hlen:pre.length+1≤core.length:=by rw [hp];simp
      have hrd:gL core (pre.length:Int)=l:=by rw [hp];simp [gL]
      have c1:(pre.length:Int)<(core.length:Int):=by omega
      have c2:(0:Int)≤(pre.length:Int):=by omega
      have hw:=nx c1 c2 (by omega);by_cases hz:l=[]
      · obtain ⟨x,x1,x2⟩:=ih (pre++[l]) (by rw [hp];simp) (fun y hy=>by rcases List.mem_append.1 hy with hy | hy;exact he y hy;simp at hy;rw [hy];exact hz)
        refine ⟨x,Ev.step (fun k=>rfl) ?_,x2⟩;have c3:¬ ((l.length:Int)>0):=by rw [hz];simp
        simp only [agx.l0,agx.l0T,decide_eq_true_eq,c1,c2,c3,if_true,if_false,hrd,hw];rw [len1 _ l];exact x1
      · refine ⟨false,Ev.step (f:=fun _=>some x0) (fun k => ?_) (Ev.now _),?_⟩
        · have:((l.length:Int)>0):=by have:=List.length_pos_iff.2 hz;omega
          simp only [agx.l0,agx.l0T,decide_eq_true_eq,c1,c2,if_true,hrd,this]
        · constructor
          · intro e;cases e
          · intro e;exact absurd (e l (by rw [hp];simp)) hz
  exact key core [] rfl (by simp)
theorem ahr (h:SF p c core odd) (hc:0<c) (i:Int) (hi : -4611686018427387904≤i∧i≤4611686018427387904) (hm : -4611686018427387904≤i / c*p∧i / c*p≤4611686018427387904) (kr:List Gn) (k:Nat):agJ.f k p c core kr i=some (fO c core i,i / c*p):=by
  have hc0:=h.hc;have hl:=h.hl;unfold agJ.f;have q1:=Int.emod_nonneg i (show c≠0 by omega);have q2:=Int.emod_lt_of_pos i hc;rw [ahF k i c hi (by omega),Option.bind_some,if_pos q1,if_pos (show i % c<(core.length:Int) by omega),iJ (n:=i / c*p) (by omega) (by omega)];have:gL core (i % c)=fO c core i:=by
    unfold fO;rw [if_neg (by omega)]
  rw [this]
theorem ahI (h:SF p c core odd) (h0:0<core.length) (d:Nat) (hd0:1≤d) (hd:d≤core.length):∃ r,Ev (fun k=>agu.f k p c core odd (d:Int)) r∧(r=true↔Rep p core d):=by
  have hc:=h.hc;have hl:=h.hl;have hp0:=h.hp0;have hp1:=h.hp1;have af:0≤p*(d:Int):=Int.mul_nonneg hp0 (by omega);have aj:p*(d:Int)≤1099511627776*6000:=Int.mul_le_mul hp1 (by omega) (by omega) (by omega);have ab:wq (p*(d:Int))=p*(d:Int):=iJ (by omega) (by omega);unfold agu.f;simp only [decide_eq_true_eq,ab];by_cases c1:d ∣ core.length
  case neg =>
    have e:¬ Int.tmod c (d:Int)=0:=fun e=>c1 (by rw [hc] at e;exact Int.natCast_dvd_natCast.1 (Int.dvd_of_tmod_eq_zero e));exact ⟨false,Ev.no (by omega) (Ev.yes (by simp [e]) (Ev.now _)),fun q=>(by cases q),fun q=>absurd q.d1 c1⟩
  have e1:Int.tmod c (d:Int)=0:=by rw [hc];exact Int.tmod_eq_zero_of_dvd (Int.natCast_dvd_natCast.2 c1)
  obtain ⟨q,hq⟩:=c1;have aa:core.length / d=q:=by rw [hq];exact Nat.mul_div_cancel_left q (by omega)
  have hq0:0<q:=by
    rcases Nat.eq_zero_or_pos q with g | g
    · rw [g] at hq;omega
    · exact g
  have hcq:c=(d:Int)*(q:Int):=by rw [hc,hq];simp
  by_cases c2:(q:Int) ∣ p
  case neg =>
    have e:¬ Int.tmod (p*(d:Int)) c=0:=fun e=>c2 (by
      have:=Int.dvd_of_tmod_eq_zero e;rw [hcq,Int.mul_comm p] at this;exact Int.dvd_of_mul_dvd_mul_left (by omega) this)
    exact ⟨false,Ev.no (by omega) (Ev.no (by simp [e1]) (Ev.no (by omega) (Ev.yes (by simp [e]) (Ev.now _)))),fun q=>(by cases q),fun r=>absurd (by have:=r.d2;rw [aa] at this;exact this) c2⟩
  obtain ⟨y,hy⟩:=c2;have e2:Int.tmod (p*(d:Int)) c=0:=Int.tmod_eq_zero_of_dvd ⟨y,by rw [hy,hcq,Int.mul_comm (q:Int) y,Int.mul_assoc,Int.mul_comm,Int.mul_comm (q:Int) (d:Int)]⟩;have hby:Int.tdiv (p*(d:Int)) c=y:=by
    rw [Int.tdiv_eq_ediv_of_nonneg af];have:p*(d:Int)=c*y:=by rw [hy,hcq,Int.mul_comm (q:Int) y,Int.mul_assoc,Int.mul_comm,Int.mul_comm (q:Int) (d:Int)]
    rw [this];exact Int.mul_ediv_cancel_left _ (by omega)
  have hpy:p / ((core.length / d:Nat):Int)=y:=by rw [aa,hy];exact Int.mul_ediv_cancel_left _ (by omega)
  have hy0:0≤y∧y≤p:=by
    rw [← hpy];exact ⟨Int.ediv_nonneg hp0 (by omega),Int.ediv_le_self _ hp0⟩
  have ac:wq y=y:=iJ (by omega) (by omega);have hrep:Rep p core d↔wP p core d y:=⟨fun r=>by have:=r.tn;rw [hpy] at this;exact this,fun t=>⟨hd0,⟨q,hq⟩,by rw [aa];exact ⟨y,hy⟩,by rw [hpy];exact t⟩⟩;rw [hrep];have key:∀ (e i:Nat),core.length - i=e→i≤core.length→(∀ j (hj:j<core.length),j<i→(∀ h:j+d<core.length,core[j+d]=core[j].map (eO y))∧(¬ j+d<core.length→∀ h:j+d - core.length<core.length,core[j+d - core.length]=core[j].map (eO (y - p))))→∃ r,Ev (fun k=>agu.l0 (some false) (some true) (d:Int) p c core odd k (i:Int)) r∧(r=true↔wP p core d y):=by
    intro e;induction e with
    | zero =>
      intro i he hi hall;have c1:¬ (i:Int)<c:=by omega
      refine ⟨true,Ev.step (fun k=>rfl) ?_,fun _=>fun j hj=>hall j hj (by omega),fun _=>rfl⟩;simp only [agu.l0,agu.l0T,decide_eq_true_eq,c1,if_false];exact Ev.now _
    | succ e ih =>
      intro i he hi hall;have hlt:i<core.length:=by omega
      have c1:(i:Int)<c:=by omega
      have hw:wq ((i:Int)+1)=((i+1:Nat):Int):=by rw [iJ (by omega) (by omega)];simp
      have hw2:wq ((i:Int)+(d:Int))=((i+d:Nat):Int):=by rw [iJ (by omega) (by omega)];simp
      obtain ⟨s1,s2⟩:=ah9 h i hlt;have ah:∀ k,agJ.f k p c core odd (i:Int)=some (core[i],0):=fun k=>by rw [ahr h (by omega) (i:Int) (by omega) (by omega) odd k,s1,s2]
      have ha:=h.hcore _ (List.getElem_mem hlt);have go:∀ (b:List Sp) (x:Int),(x=0∨x=p)→SL (-1099511627776) 1099511627776 b→(∀ k,agJ.f k p c core odd ((i+d:Nat):Int)=some (b,x))→(b=core[i].map (eO (y - x))↔((∀ h:i+d<core.length,core[i+d]=core[i].map (eO y))∧(¬ i+d<core.length→∀ h:i+d - core.length<core.length,core[i+d - core.length]=core[i].map (eO (y - p)))))→∃ r,Ev (fun k=>agu.l0 (some false) (some true) (d:Int) p c core odd k (i:Int)) r∧(r=true↔wP p core d y):=by
        intro b x hx hb ai hiff;have w0:wq (0+y)=y:=by rw [Int.zero_add,ac]
        obtain ⟨r,r1,r2⟩:=ahH ha hb y x (by omega) (by rcases hx with rfl | rfl <;> omega);have st:∀ (v:Bool),Ev (fun k=>(agt.f k core[i] y b x).bind fun t9=>(if (!t9)=true then some false else (agu.l0 (some false) (some true) (d:Int) p c core odd k ((i+1:Nat):Int)))) v→Ev (fun k=>agu.l0 (some false) (some true) (d:Int) p c core odd k (i:Int)) v:=fun v hv=>by
          refine Ev.step (fun k=>rfl) ?_;simp only [agu.l0,agu.l0T,decide_eq_true_eq,c1,if_true,ah,hw,hw2,ai,Option.bind_some,ab,hby,ac,w0];refine Ev.no (by omega) ?_;exact hv
        cases r with
        | true =>
          obtain ⟨r',r1',r2'⟩:=ih (i+1) (by omega) (by omega) (fun j hj hji=>by
            rcases Nat.lt_or_ge j i with g | g
            · exact hall j hj g
            · have:j=i:=by omega
              subst this;exact hiff.1 (r2.1 rfl))
          exact ⟨r',st _ (Ev.bind r1 (Ev.no (by simp) r1')),r2'⟩
        | false =>
          refine ⟨false,st _ (Ev.bind r1 (Ev.yes rfl (Ev.now _))),fun z=>(by cases z),fun z => ?_⟩;exact absurd (r2.2 (hiff.2 (z i hlt))) (by simp)
      by_cases g:i+d<core.length
      · obtain ⟨t1,t2⟩:=ah9 h (i+d) g
        refine go core[i+d] 0 (.inl rfl) (h.hcore _ (List.getElem_mem g)) (fun k=>by rw [ahr h (by omega) ((i+d:Nat):Int) (by omega) (by omega) odd k,t1,t2]) ?_;rw [Int.sub_zero];exact ⟨fun z=>⟨fun _=>z,fun n=>absurd g n⟩,fun z=>z.1 g⟩
      · have g2:i+d - core.length<core.length:=by omega
        obtain ⟨t1,t2⟩:=at_next h (i+d - core.length) g2;have e3:((i+d - core.length:Nat):Int)+c=((i+d:Nat):Int):=by omega
        rw [e3] at t1 t2;refine go core[i+d - core.length] p (.inr rfl) (h.hcore _ (List.getElem_mem g2)) (fun k=>by rw [ahr h (by omega) ((i+d:Nat):Int) (by omega) (by omega) odd k,t1,t2]) ?_;exact ⟨fun z=>⟨fun n=>absurd n g,fun _ _=>z⟩,fun z=>z.2 g g2⟩
  obtain ⟨r,r1,r2⟩:=key core.length 0 (by omega) (by omega) (fun j _ h=>by omega);exact ⟨r,Ev.no (by omega) (Ev.no (by simp [e1]) (Ev.no (by omega) (Ev.no (by simp [e2]) r1))),r2⟩
theorem aiW {β:Type} {v:β} {best:Nat} (h:SF p c core odd) (h0:0<core.length) (hb:Rep p core best) (hle:best≤core.length) (hmin:∀ d,d<best→¬ Rep p core d):∀ (e d:Nat),best - d=e→1≤d→d≤best→∀ (X:Nat→Int→Option β),Ev (fun k=>X k (best:Int)) v→Ev (fun k=>nu.l0 (X k) p c core odd k (d:Int)) v:=by
  have hl:=h.hl;intro e;induction e with
  | zero =>
    intro d he hd0 hd X hX;obtain rfl:d=best:=by omega
    obtain ⟨r,r1,r2⟩:=ahI h h0 d hd0 hle;obtain rfl:=r2.2 hb;refine Ev.step (fun k=>rfl) ?_;simp only [nu.l0,nu.l0T];exact Ev.bind r1 (Ev.no (by simp) (Ev.shift hX))
  | succ e ih =>
    intro d he hd0 hd X hX;have hw:wq ((d:Int)+1)=((d+1:Nat):Int):=by rw [iJ (by omega) (by omega)];simp
    obtain ⟨r,r1,r2⟩:=ahI h h0 d hd0 (by omega);have:r=false:=by
      cases r with
      | true=>exact absurd (r2.1 rfl) (hmin d (by omega))
      | false=>rfl
    subst this;have hi:=ih (d+1) (by omega) (by omega) (by omega) (fun k=>X (k+1)) (Ev.shift hX);refine Ev.step (fun k=>rfl) ?_;simp only [nu.l0,nu.l0T,hw];exact Ev.bind r1 (Ev.yes rfl hi)
theorem aiX {β:Type} {v:β} (h:SF p c core odd) (d:Nat) (hd:d≤core.length):∀ (e i:Nat),d - i=e→i≤d→∀ (Y:Nat→List (List Sp)→Option β),Ev (fun k=>Y k (core.take d)) v→Ev (fun k=>nu.l1 (Y k) (d:Int) core k (i:Int) (core.take i)) v:=by
  have hl:=h.hl;intro e;induction e with
  | zero =>
    intro i he hi Y hY;obtain rfl:i=d:=by omega
    have c1:¬ (i:Int)<(i:Int):=by omega
    refine Ev.step (fun k=>rfl) ?_;simp only [nu.l1,nu.l1T,decide_eq_true_eq,c1,if_false];exact Ev.shift hY
  | succ e ih =>
    intro i he hi Y hY;have hlt:i<core.length:=by omega
    have hb:=SL.len (lo:=0) (h.hcore _ (List.getElem_mem hlt));have hb':0+core[i].length≤8796093022208:=by omega
    have htk:core.take i++[core[i]]=core.take (i+1):=(List.take_succ_eq_append_getElem hlt).symm;have hl2:(core.take i).length+1≤5864062014805:=by rw [List.length_take];omega
    have c0:(i:Int)<(d:Int):=by omega
    have c1:(i:Int)<(core.length:Int):=by omega
    have c2:(0:Int)≤(i:Int):=by omega
    have hrd:=rdL core i hlt;have hw:wq ((i:Int)+1)=((i+1:Nat):Int):=by rw [iJ (by omega) (by omega)];simp
    have hi2:=ih (i+1) (by omega) (by omega) (fun k=>Y (k+1)) (Ev.shift hY);rw [← htk] at hi2;refine Ev.step (fun k=>rfl) ?_;simp only [nu.l1,nu.l1T,decide_eq_true_eq,c0,c1,c2,if_true,hrd,hw,hb',hl2];exact hi2
theorem aiD {β:Type} {v:β} {p' c':Int} {fu:List (List Sp)} (h:SF p c core odd) (h':SF p' c' fu []) (hp:p'≤1000000) (hix:∀ g∈odd,-1000≤g.f0∧g.f0≤1000) (hv:∀ g∈odd,jm p' c' fu [] g.f0=(bT p' c' fu g.f0,0)):∀ (rest pre:List Gn),odd=pre++rest→∀ (X:Nat→List Gn→Option β),Ev (fun k=>X k (odd.filter fun g => !jv p' c' fu g)) v→Ev (fun k=>nu.l2 (X k) odd p' c' fu k (pre.filter fun g => !jv p' c' fu g) (pre.length:Int)) v:=by
  have hlo:=h.hlo;intro rest;induction rest with
  | nil =>
    intro pre hp X hX;have e:odd=pre:=by rw [hp];simp
    have c1:¬ (pre.length:Int)<(odd.length:Int):=by rw [e];omega
    refine Ev.step (fun k=>rfl) ?_;simp only [nu.l2,nu.l2T,decide_eq_true_eq,c1,if_false];rw [← e];exact Ev.shift hX
  | cons g t ih =>
    intro pre hpr X hX;have hm:g∈odd:=by rw [hpr];simp
    have hlen:pre.length+1≤odd.length:=by rw [hpr];simp
    have hrd:gG odd (pre.length:Int)=g:=by simp [hpr,gG]
    have c1:(pre.length:Int)<(odd.length:Int):=by omega
    have c2:(0:Int)≤(pre.length:Int):=by omega
    have hw:=nx c1 c2 (by omega);have ab:=h.hodd g hm;have hg:=SL.len (lo:=0) ab;have hg':0+g.f1.length≤8796093022208:=by omega
    have hf:(pre.filter fun g => !jv p' c' fu g).length≤pre.length:=List.length_filter_le _ _;have c3:(pre.filter fun g => !jv p' c' fu g).length+1≤4398046511104:=by omega
    have hi:=ih (pre++[g]) (by rw [hpr];simp) (fun k=>X (k+1)) (Ev.shift hX);rw [← len1,List.filter_append] at hi;have hc':=h'.hc;have hp0':=h'.hp0;have hix':=hix g hm;have go:∀ (a:List Sp) (x:Int),SL (-1099511627776) 1099511627776 a→(-4611686018427387904≤x∧x≤4611686018427387904)→a.map (eO x)=bT p' c' fu g.f0→∀ w:Nat→Bool→Option β,(∀ k,nu.l2T (X (k+1)) odd p' c' fu (nu.l2 (X (k+1)) odd p' c' fu k) k (pre.filter fun g => !jv p' c' fu g) (pre.length:Int)=(agt.f k a x g.f1 0).bind (w k))→(∀ k,w k true=nu.l2 (X (k+1)) odd p' c' fu k (pre.filter fun g => !jv p' c' fu g) ((pre.length:Int)+1))→(∀ k,w k false=nu.l2 (X (k+1)) odd p' c' fu k ((pre.filter fun g => !jv p' c' fu g)++[g]) ((pre.length:Int)+1))→Ev (fun k=>nu.l2 (X k) odd p' c' fu k (pre.filter fun g => !jv p' c' fu g) (pre.length:Int)) v:=by
      intro a x ha hx hax w hT h1 h2;obtain ⟨r,r1,r2⟩:=ahH ha ab x 0 hx (by omega);rw [Int.sub_zero,hax] at r2;have hpl:jv p' c' fu g=true↔r=true:=by
        rw [l7,hv g hm,r2];constructor
        · intro q;exact (congrArg Prod.fst q).symm
        · intro q;rw [← q]
      refine Ev.step (fun k=>rfl) (Ev.congr (fun k=>hT k) (Ev.bind r1 ?_));cases r with
      | true =>
        have e2:([g].filter fun g => !jv p' c' fu g)=[]:=by simp [hpl.2 rfl]
        rw [e2,List.append_nil] at hi;exact Ev.congr (fun k=>h1 k) hi
      | false =>
        have:jv p' c' fu g=false:=by
          rw [← Bool.not_eq_true];exact fun q=>absurd (hpl.1 q) (by simp)
        have e2:([g].filter fun g => !jv p' c' fu g)=[g]:=by simp [this]
        rw [e2] at hi;exact Ev.congr (fun k=>h2 k) hi
    by_cases hc:c'=0
    · refine go [] 0 trivial (by omega) ?_ (fun k aa=>if (!aa)=true then nu.l2 (X (k+1)) odd p' c' fu k ((pre.filter fun g => !jv p' c' fu g)++[g]) ((pre.length:Int)+1) else nu.l2 (X (k+1)) odd p' c' fu k (pre.filter fun g => !jv p' c' fu g) ((pre.length:Int)+1)) (fun k => ?_) (fun k=>rfl) (fun k=>rfl)
      · unfold bT fO
        rw [if_pos hc];rfl
      · have c4:¬ c'>0:=by omega
        simp only [nu.l2T,decide_eq_true_eq,c1,c2,c3,c4,if_true,if_false,hrd,hw,hg']
    · have hc0:0<c':=by omega
      have hd:=ag6 (i:=g.f0) (by omega) hc0;have m1:g.f0 / c'*p'≤6000*p':=Int.mul_le_mul_of_nonneg_right hd.2 hp0';have m2 : -6000*p'≤g.f0 / c'*p':=Int.mul_le_mul_of_nonneg_right hd.1 hp0';have hh:∀ k,agJ.f k p' c' fu [] g.f0=some (fO c' fu g.f0,g.f0 / c'*p'):=fun k=>ahr h' hc0 g.f0 (by omega) (by omega) [] k;refine go (fO c' fu g.f0) (g.f0 / c'*p') (h'.hcore _ (h'.jq g.f0 hc)) (by omega) rfl (fun k aa=>if (!aa)=true then nu.l2 (X (k+1)) odd p' c' fu k ((pre.filter fun g => !jv p' c' fu g)++[g]) ((pre.length:Int)+1) else nu.l2 (X (k+1)) odd p' c' fu k (pre.filter fun g => !jv p' c' fu g) ((pre.length:Int)+1)) (fun k => ?_) (fun k=>rfl) (fun k=>rfl);have c4:c'>0:=by omega
      simp only [nu.l2T,decide_eq_true_eq,c1,c2,c3,c4,if_true,if_false,hrd,hw,hg',hh,Option.bind_some]
theorem ahq {O h:Fm} (H:af6 O) (s:abI O h):Ev (fun k=>nu.f k O.f0 O.f1 O.f2 O.f3) h:=by
  have hS:=H.s;have hc:=H.s.hc;have hl:=H.s.hl;have hp0:=H.s.hp0;have hp1:=H.s.hp1;have hp:=H.hp;have l3:=(pF H.s s).2.2.1;obtain ⟨sb,_⟩:=s.c.sf H.s;have sb':SF h.f0 h.f1 h.f2 []:=sb;have hix:∀ g∈O.f3,-1000≤g.f0∧g.f0≤1000:=fun g hg=>by have:=H.ix g hg;omega
  have hv:∀ g∈O.f3,jm h.f0 h.f1 h.f2 [] g.f0=(bT h.f0 h.f1 h.f2 g.f0,0):=fun g hg=>by
    have hi:=H.ix g hg;have e:gF (⟨h.f0,h.f1,h.f2,[]⟩:Fm) g.f0=bT h.f0 h.f1 h.f2 g.f0:=nN _;have q:=afU (A:=⟨h.f0,h.f1,h.f2,[]⟩) sb' (lg (by omega)) (i:=g.f0) (by
      rw [e,show bT h.f0 h.f1 h.f2 g.f0=bF h g.f0 from rfl,tX H.s s];exact H.tb g.f0 (by omega) (by omega))
    rw [e] at q;exact q
  have ab:∀ x:Fm,(⟨x.f0,x.f1,x.f2,x.f3⟩:Fm)=x:=fun x=>rfl;unfold nu.f agx.f;by_cases hb:∀ l∈O.f2,l=[]
  · have e:=s.c.e hb
    have e0:h.f0=0:=congrArg (fun x:Fm=>x.f0) e;have e1:h.f1=0:=congrArg (fun x:Fm=>x.f1) e;have e2:h.f2=[]:=congrArg (fun x:Fm=>x.f2) e;obtain ⟨b,b1,b2⟩:=aht false true hl;obtain rfl:=b2.2 hb;refine Ev.bind b1 (Ev.no (by simp) ?_);have:=aiD (v:=h) H.s sb' (by omega) hix hv O.f3 [] rfl (fun k y=>some (⟨0,0,[],y⟩:Fm)) (by
      rw [← s.o,show (⟨0,0,[],h.f3⟩:Fm)=h from by rw [← ab h,e0,e1,e2]];exact Ev.now _)
    rw [e0,e1,e2] at this;exact this
  · obtain ⟨d,rp,mn,e⟩:=s.c.n hb
    have e0:h.f0=O.f0 / ((O.f2.length / d:Nat):Int):=congrArg (fun x:Fm=>x.f0) e;have e1:h.f1=(d:Int):=congrArg (fun x:Fm=>x.f1) e;have e2:h.f2=O.f2.take d:=congrArg (fun x:Fm=>x.f2) e;have h0:0<O.f2.length:=by
      refine Nat.pos_of_ne_zero fun z=>hb fun l hl => ?_;rw [List.length_eq_zero_iff.1 z] at hl;simp at hl
    have hd:d≤O.f2.length:=Nat.le_of_dvd h0 rp.d1;have hd0:=rp.d0;have ac:wq (Int.tdiv (wq (O.f0*(d:Int))) O.f1)=h.f0:=by
      have af:0≤O.f0*(d:Int):=Int.mul_nonneg hp0 (by omega);have ai:O.f0*(d:Int)≤1099511627776*6000:=Int.mul_le_mul hp1 (by omega) (by omega) (by omega);rw [iJ (n:=O.f0*(d:Int)) (by omega) (by omega),Int.tdiv_eq_ediv_of_nonneg af,e0];obtain ⟨q,hq⟩:=rp.d1;obtain ⟨y,hy⟩:=rp.d2;have ah:O.f2.length / d=q:=by rw [hq];exact Nat.mul_div_cancel_left q (by omega)
      rw [ah] at hy ⊢;have hq0:0<q:=by
        rcases Nat.eq_zero_or_pos q with g | g
        · rw [g] at hq;omega
        · exact g
      have hcq:O.f1=(d:Int)*(q:Int):=by rw [hc,hq];simp
      have e3:O.f0*(d:Int)=O.f1*y:=by rw [hy,hcq,Int.mul_comm (q:Int) y,Int.mul_assoc,Int.mul_comm,Int.mul_comm (q:Int) (d:Int)]
      have e4:O.f0*(d:Int) / O.f1=y:=by rw [e3];exact Int.mul_ediv_cancel_left _ (by omega)
      have e5:O.f0 / (q:Int)=y:=by rw [hy];exact Int.mul_ediv_cancel_left _ (by omega)
      have y0:0≤y:=by rw [← e5];exact Int.ediv_nonneg hp0 (by omega)
      have y1:y≤O.f0:=by rw [← e5];exact Int.ediv_le_self _ hp0
      rw [e4,e5];exact iJ (by omega) (by omega)
    obtain ⟨b,b1,b2⟩:=aht false true hl;have:b=false:=by
      cases b with
      | true=>exact absurd (b2.1 rfl) hb
      | false=>rfl
    subst this;refine Ev.bind b1 (Ev.yes rfl ?_);refine aiW hS h0 rp hd mn (d - 1) 1 rfl (by omega) hd0 (fun k y5=>if O.f1=0 then none else nu.l1 (fun y6=>nu.l2 (fun aa=>some (⟨wq (Int.tdiv (wq (O.f0*y5)) O.f1),y5,y6,aa⟩:Fm)) O.f3 (wq (Int.tdiv (wq (O.f0*y5)) O.f1)) y5 y6 k [] 0) y5 O.f2 k 0 []) ?_;refine Ev.no (by omega) ?_;simp only [ac];refine aiX hS d hd d 0 (by omega) (by omega) (fun k y6=>nu.l2 (fun aa=>some (⟨h.f0,(d:Int),y6,aa⟩:Fm)) O.f3 h.f0 (d:Int) y6 k [] 0) ?_;have:=aiD (v:=h) H.s sb' (by omega) hix hv O.f3 [] rfl (fun k y=>some (⟨h.f0,(d:Int),O.f2.take d,y⟩:Fm)) (by
      rw [← s.o,← e1,← e2];exact Ev.now _)
    rw [e1,e2] at this;exact this
end Go.Proofs.YtcomnjodjijcmaaGreat.Q
namespace Go.Proofs.YtcomnjodjijcmaaGreat.Q
set_option linter.unusedVariables false
set_option linter.unusedSimpArgs false
open Go.RowKit Go.Proofs.YtcomnjodjijcmaaGreatW.dz Go.Proofs.YtcomnjodjijcmaaGreatW.eD M R P
theorem zR (k:Nat):@eF.f wtT (k+100)=some true:=by kernel_rfl
variable [Inhabited WT]
theorem l9:Ev (fun k=>eF.f k) true:=⟨100,fun k hk=>by
  obtain ⟨j,rfl⟩:=Nat.exists_eq_add_of_le' hk;rename_i i;rw [afb i wtT];exact zR j⟩
end Go.Proofs.YtcomnjodjijcmaaGreat.Q
namespace Go.Proofs.YtcomnjodjijcmaaGreat.U
set_option linter.unusedVariables false
set_option linter.unusedSimpArgs false
open Go.RowKit Go.Proofs.YtcomnjodjijcmaaGreatW.dz Go.Proofs.YtcomnjodjijcmaaGreatW.eD M R P Q
section
theorem adk {O h h':Fm} (so:sfF O) (s:abI O h) (s':abI O h'):h=h':=rO (s.can so) (s'.can so) fun i=>by rw [qG so s,qG so s']
theorem adJ {D:List Sp→List Sp→List Sp} (hD:vN D) {A B:Fm} (a:NF A) (b:NF B) (hn:nF A B≤144) {r:Fm × Int} (hr:OfS D A B r):sfF r.1:=by
  by_cases hal:kF A B
  · by_cases hg:grF (fM D A B)
    · obtain ⟨h,h1,h2⟩:=(hr.2 hal).2 hg
      rw [h2];exact (h1.can (lC hD a b hn)).s
    · rw [(hr.2 hal).1 hg];exact oD.s
  · rw [hr.1 hal];exact oD.s
end
variable [Inhabited WT]
theorem alf {x:Fm} (h:sfF x):Ev (fun k=>cZ.f k x.f0 x.f1 x.f2 x.f3 x.f0 x.f1 x.f2 x.f3) true:=tT h
end Go.Proofs.YtcomnjodjijcmaaGreat.U
namespace Go.Proofs.YtcomnjodjijcmaaGreat.Q
set_option linter.unusedVariables false
set_option linter.unusedSimpArgs false
open Go.RowKit Go.Proofs.YtcomnjodjijcmaaGreatW.dz Go.Proofs.YtcomnjodjijcmaaGreatW.eD M R P
variable [Inhabited WT]
end Go.Proofs.YtcomnjodjijcmaaGreat.Q
namespace Go.Proofs.YtcomnjodjijcmaaGreat.Q
set_option linter.unusedVariables false
set_option linter.unusedSimpArgs false
open Go.RowKit Go.Proofs.YtcomnjodjijcmaaGreatW.dz Go.Proofs.YtcomnjodjijcmaaGreatW.eD M R P
section
theorem ajr {A B:Fm} (a:NF A) (b:NF B) (h:kF A B) (i:Int):al (gF A i) (gF B i):=by
  by_cases hi:i∈iK A B
  · have:=lq a b i hi
    have q:=h.2.2 i hi;rw [a.v (by omega) (by omega),b.v (by omega) (by omega)] at q;exact q
  · rw [kI (fun g hg e=>hi (qE.2 (.inl ⟨g,hg,e⟩))),kI (fun g hg e=>hi (qE.2 (.inr ⟨g,hg,e⟩)))]
    by_cases hn:nF A B=0
    · intro h1
      exact absurd (qF (List.length_eq_zero_iff.1 (abN hn).1) i) h1
    · obtain ⟨s1,s2⟩:=adf a.cn.s b.cn.s h.1
      have q1:=Int.emod_nonneg i (show (nF A B:Int)≠0 by omega);have q2:=Int.emod_lt_of_pos i (show (0:Int)<(nF A B:Int) by omega);have q3:i % (nF A B:Int)+i / (nF A B:Int)*(nF A B:Int)=i:=by
        have:=Int.emod_add_mul_ediv i (nF A B:Int);rw [Int.mul_comm] at this;exact this
      have e1:=tO s1 (i % (nF A B:Int)) (i / (nF A B:Int));have e2:=tO s2 (i % (nF A B:Int)) (i / (nF A B:Int));rw [q3] at e1 e2;have q:=h.2.1 (i % (nF A B:Int)).toNat (by omega);rw [show (((i % (nF A B:Int)).toNat:Nat):Int)=i % (nF A B:Int) by omega] at q;rw [e1,e2];intro h1 h2;rw [q (fun e=>h1 (by rw [e];rfl)) (fun e=>h2 (by rw [e];rfl))]
end
variable [Inhabited WT]
theorem aiY {p c p' c':Int} {core fu:List (List Sp)} {odd kr:List Gn} {A B:Fm} (ca:Ev (fun k=>dK.f k p c core odd) A) (cb:Ev (fun k=>dK.f k p' c' fu kr) B) (H:OfH A B) :
    ∃ r,Ev (fun k=>agV.f k p c core odd p' c' fu kr) r∧(r.1=true↔kF A B)∧(r.2=0∨r.2=51)∧(r.2=51↔¬ mG A B):=by
  obtain ⟨r1,c1,c2,c3⟩:=tV H;have hn:=H.n;have ho:=H.o;have hil:=mX A B;unfold agV.f;by_cases hf:mG A B
  case neg =>
    have:=c3 hf;subst this;exact ⟨(false,51),Ev.bind ca (Ev.bind cb (Ev.bind c1 (Ev.yes (by simp) (Ev.now _)))),⟨fun e=>(by cases e),fun h=>absurd h.1 hf⟩,.inr rfl,fun _=>hf,fun _=>rfl⟩
  have:=c2 hf;subst this;obtain ⟨b1,d1,d2⟩:=l8 ((List.range (nF A B)).map (fun (i:Nat)=>(⟨bF A (i:Int),bF B (i:Int)⟩:P2))) (by simp;omega) (fun q hq=>by
    obtain ⟨i,_,rfl⟩:=List.mem_map.1 hq;exact nP H.sa _)
  obtain ⟨b2,e1,e2⟩:=l8 ((iK A B).map fun i=>(⟨(vF A i).1,(vF B i).1⟩:P2)) (by simp;omega) (fun q hq=>by
    obtain ⟨i,_,rfl⟩:=List.mem_map.1 hq;exact jL H.sa _)
  have od:=wS H;cases b1 with
  | false =>
    refine ⟨(false,0),Ev.bind ca (Ev.bind cb (Ev.bind c1 (Ev.no (by simp) (Ev.bind od (Ev.bind d1 (Ev.no (by simp) (Ev.now _))))))),⟨fun e=>(by cases e),fun h => ?_⟩,.inl rfl,fun e=>(by cases e),fun e=>absurd hf e⟩;exact absurd (d2.2 fun q hq=>by
      obtain ⟨i,hi,rfl⟩:=List.mem_map.1 hq;exact h.2.1 i (List.mem_range.1 hi)) (by simp)
  | true =>
    refine ⟨(b2,0),Ev.bind ca (Ev.bind cb (Ev.bind c1 (Ev.no (by simp) (Ev.bind od (Ev.bind d1 (Ev.yes rfl (Ev.bind e1 (Ev.now _)))))))),⟨fun e=>⟨hf,fun i hi=>d2.1 rfl _ (List.mem_map.2 ⟨i,List.mem_range.2 hi,rfl⟩),fun i hi=>e2.1 e _ (List.mem_map.2 ⟨i,hi,rfl⟩)⟩,fun h=>e2.2 fun q hq=>by
      obtain ⟨i,hi,rfl⟩:=List.mem_map.1 hq;exact h.2.2 i hi⟩,.inl rfl,fun e=>(by cases e),fun e=>absurd hf e⟩
end Go.Proofs.YtcomnjodjijcmaaGreat.Q
namespace Go.Proofs.YtcomnjodjijcmaaGreat.U
set_option linter.unusedVariables false
set_option linter.unusedSimpArgs false
open Go.RowKit Go.Proofs.YtcomnjodjijcmaaGreatW.dz Go.Proofs.YtcomnjodjijcmaaGreatW.eD M R P Q
variable [Inhabited WT]
end Go.Proofs.YtcomnjodjijcmaaGreat.U
namespace Go.Proofs.YtcomnjodjijcmaaGreat.Q
set_option linter.unusedVariables false
set_option linter.unusedSimpArgs false
open Go.RowKit Go.Proofs.YtcomnjodjijcmaaGreatW.dz Go.Proofs.YtcomnjodjijcmaaGreatW.eD M R P
section
theorem ajb (k:Nat) (x y:List Sp):agK.f k 1 x y=some (DU x y):=by
  unfold agK.f DU;simp only [decide_eq_true_eq];by_cases h:x=[]
  · rw [if_pos h,if_pos trivial,if_pos (by rw [h];rfl)]
  · rw [if_neg h,if_pos trivial,if_neg (by have:=List.length_pos_iff.2 h;omega)]
theorem ajc (k:Nat) (x y:List Sp):agK.f k 2 x y=some (DC x y):=by
  unfold agK.f DC;simp only [decide_eq_true_eq];by_cases h:y=[]
  · rw [if_pos h,if_neg (by omega),if_pos trivial,if_pos (by rw [h];rfl)]
  · rw [if_neg h,if_neg (by omega),if_pos trivial,if_neg (by have:=List.length_pos_iff.2 h;omega),if_neg (by omega)]
theorem ajd (k:Nat) (x y:List Sp):agK.f k 3 x y=some (DL x y):=by
  unfold agK.f DL;simp only [decide_eq_true_eq];by_cases h:y=[]
  · rw [if_pos h,if_neg (by omega),if_neg (by omega),if_pos trivial,if_neg (by rw [h];simp)]
  · rw [if_neg h,if_neg (by omega),if_neg (by omega),if_pos trivial,if_pos (by have:=List.length_pos_iff.2 h;omega)]
theorem ajs:@agC.l0=@agx.l0:=by kernel_rfl
theorem akm:@agz.f=@afA.f:=by kernel_rfl
theorem ajt:@afv.l1=@afv.l0:=by kernel_rfl
theorem aje (a b j:Nat) (ha:0<a) (hb:0<b):b ∣ a*j→j<Nat.lcm a b / a→j=0:=fun h hlt=>by
  refine Classical.byContradiction fun hj => ?_;have h1:Nat.lcm a b ∣ a*j:=Nat.lcm_dvd (Nat.dvd_mul_right a j) h;have h2:Nat.lcm a b≤a*j:=Nat.le_of_dvd (Nat.mul_pos ha (by omega)) h1;have h3:a*(Nat.lcm a b / a)=Nat.lcm a b:=Nat.mul_div_cancel' (Nat.dvd_lcm_left a b);have h4:a*j<a*(Nat.lcm a b / a):=Nat.mul_lt_mul_of_pos_left hlt ha;omega
theorem aju {A B:Fm} (a:NF A) (b:NF B) (hn:nF A B≤144) (hf:mG A B) (h:∀ i,-700≤i→i≤700→al (gF A i) (gF B i)):kF A B:=by
  refine ⟨hf,fun i hi => ?_,fun i hi => ?_⟩
  · obtain ⟨s1,s2⟩:=adf a.cn.s b.cn.s hf
    have e1:=tO s1 (i:Int) 2;obtain ⟨m,hm⟩:∃ m:Int,m=101+((i:Int) - 101) % (nF A B:Int):=⟨_,rfl⟩;have q1:=Int.emod_nonneg ((i:Int) - 101) (show (nF A B:Int)≠0 by omega);have q2:=Int.emod_lt_of_pos ((i:Int) - 101) (show (0:Int)<(nF A B:Int) by omega);have q3:=Int.emod_add_mul_ediv ((i:Int) - 101) (nF A B:Int);have q4:m+((i:Int) - 101) / (nF A B:Int)*(nF A B:Int)=i:=by
      rw [Int.mul_comm] at q3;omega
    have f1:=tO s1 m (((i:Int) - 101) / (nF A B:Int));have f2:=tO s2 m (((i:Int) - 101) / (nF A B:Int));rw [q4] at f1 f2;have hh:=h m (by omega) (by omega);rw [kI (fun g hg e=>by have:=a.ix g hg;omega),kI (fun g hg e=>by have:=b.ix g hg;omega)] at hh;rw [f1,f2];intro h1 h2;rw [hh (fun e=>h1 (by rw [e];rfl)) (fun e=>h2 (by rw [e];rfl))]
  · have:=lq a b i hi
    have hh:=h i (by omega) (by omega);rw [a.v (by omega) (by omega),b.v (by omega) (by omega)];exact hh
end
variable [Inhabited WT]
variable {p c p' c':Int} {core fu:List (List Sp)} {odd kr:List Gn}
theorem ah3 (a b:Nat) (ha:1≤a∧a≤6000) (hb:1≤b∧b≤6000):Ev (fun k=>agq.f k (a:Int) (b:Int)) ((Nat.lcm a b:Nat):Int):=by
  have h3:a*(Nat.lcm a b / a)=Nat.lcm a b:=Nat.mul_div_cancel' (Nat.dvd_lcm_left a b);have hpos:0<Nat.lcm a b:=Nat.lcm_pos (by omega) (by omega);have hle:Nat.lcm a b≤36000000:=Nat.le_trans (afW a b) (Nat.mul_le_mul ha.2 hb.2);unfold agq.f;have key:∀ (e j:Nat),Nat.lcm a b / a - j=e→1≤j→j≤Nat.lcm a b / a→Ev (fun k=>agq.l0 (fun y1=>some y1) (a:Int) (b:Int) k ((a*j:Nat):Int)) ((Nat.lcm a b:Nat):Int):=by
    intro e;induction e with
    | zero =>
      intro j he h1 hj;obtain rfl:j=Nat.lcm a b / a:=by omega
      have c1:¬ (b:Int)=0:=by omega
      have c2:Int.tmod ((Nat.lcm a b:Nat):Int) (b:Int)=0:=Int.tmod_eq_zero_of_dvd (Int.natCast_dvd_natCast.2 (Nat.dvd_lcm_right a b));refine Ev.step (fun k=>rfl) ?_;rw [h3];simp only [agq.l0,agq.l0T,c1,c2,if_false];exact Ev.no (by simp) (Ev.now _)
    | succ e ih =>
      intro j he h1 hj;have hlt:a*j<a*(Nat.lcm a b / a):=Nat.mul_lt_mul_of_pos_left (by omega) (by omega);have c1:¬ (b:Int)=0:=by omega
      have c2:¬ Int.tmod ((a*j:Nat):Int) (b:Int)=0:=fun h=>by
        have:=aje a b j (by omega) (by omega) (Int.natCast_dvd_natCast.1 (Int.dvd_of_tmod_eq_zero h)) (by omega);omega
      have hw:wq (((a*j:Nat):Int)+(a:Int))=((a*(j+1):Nat):Int):=by
        rw [iJ (by omega) (by omega)];rw [Nat.mul_add,Nat.mul_one];simp
      refine Ev.step (fun k=>rfl) ?_;simp only [agq.l0,agq.l0T,c1,if_false,hw];exact Ev.yes (ahW c2) (ih (j+1) (by omega) (by omega) (by omega))
  have hq:1≤Nat.lcm a b / a:=Nat.div_pos (Nat.le_of_dvd hpos (Nat.dvd_lcm_left a b)) (by omega);have:=key _ 1 rfl (by omega) hq;rw [Nat.mul_one] at this;exact this
theorem agX (h:SF p c core odd) (h':SF p' c' fu kr) (hn:rn core.length fu.length≤6000) (ht:rt p core.length p' fu.length≤1099511627776) :
    Ev (fun k=>agE.f k p c core odd p' c' fu kr) (((rn core.length fu.length:Nat):Int),rt p core.length p' fu.length,0):=by
  have hc:=h.hc;have hc':=h'.hc;have l1:=h.hl;have l2:=h'.hl;have p0:=h.hp0;have p0':=h'.hp0;have z:=h.hz;have z':=h'.hz;subst hc;subst hc';have fin:∀ (P:Int) (len n:Nat),0<len→0<P→n≤6000→P*((n / len:Nat):Int)≤1099511627776→Ev (fun k=>(if (decide ((n:Int)>6000))=true then (some ((0:Int),(0:Int),(3:Int))) else (if (len:Int)=0 then none else (if P=0 then none else (if (decide ((wq (Int.tdiv (n:Int) (len:Int)))>(wq (Int.tdiv 1099511627776 P))))=true then (some (0,0,20)) else (if (len:Int)=0 then none else (some ((n:Int),(wq (P*(wq (Int.tdiv (n:Int) (len:Int))))),0)))))))) ((n:Int),P*((n / len:Nat):Int),0):=by
    intro P len n h0 hP aa hT;have hq:n / len≤6000:=Nat.le_trans (Nat.div_le_self _ _) aa;have e0:Int.tdiv (n:Int) (len:Int)=((n / len:Nat):Int):=rfl;have e2:Int.tdiv 1099511627776 P=1099511627776 / P:=Int.tdiv_eq_ediv_of_nonneg (by omega);have b1:0≤1099511627776 / P:=Int.ediv_nonneg (by omega) (by omega);have b2:1099511627776 / P≤1099511627776:=Int.ediv_le_self _ (by omega);rw [e0,e2];generalize n / len=q at hq hT ⊢;have b3:(q:Int)≤1099511627776 / P:=(Int.le_ediv_iff_mul_le hP).2 (by rw [Int.mul_comm];exact hT);have b4:0≤P*(q:Int):=Int.mul_nonneg (by omega) (by omega);rw [iJ (n:=(q:Int)) (by omega) (by omega),iJ (n:=1099511627776 / P) (by omega) (by omega),iJ (n:=P*(q:Int)) (by omega) (by omega)];simp only [decide_eq_true_eq];exact Ev.no (by omega) (Ev.no (by omega) (Ev.no (by omega) (Ev.no (by omega) (Ev.no (by omega) (Ev.now _)))))
  unfold agE.f;by_cases ha:core.length=0
  · have en:rn core.length fu.length=fu.length:=by unfold rn;rw [if_pos ha]
    have et:rt p core.length p' fu.length=p':=by unfold rt;rw [if_pos ha]
    rw [en,et];rw [et] at ht;refine Ev.yes (decide_eq_true (by omega)) ?_;by_cases hb:fu.length=0
    · refine Ev.yes (decide_eq_true (by omega)) ?_
      rw [hb,z'.1 (by omega)];exact Ev.now _
    · refine Ev.no (by simp [hb]) (Ev.no (by simp [ha]) ?_)
      have hp':p'≠0:=fun e=>by have:=z'.2 e;omega
      have f:=fin p' fu.length fu.length (by omega) (by omega) l2 (by rw [Nat.div_self (by omega)];simpa using ht);rw [Nat.div_self (by omega),show p'*((1:Nat):Int)=p' by simp] at f;exact f
  · have et:rt p core.length p' fu.length=p*((rn core.length fu.length / core.length:Nat):Int):=by unfold rt;rw [if_neg ha]
    have hp':p≠0:=fun e=>by have:=z.2 e;omega
    rw [et] at ht ⊢;refine Ev.no (by simp [ha]) (Ev.yes (decide_eq_true (by omega)) ?_);by_cases hb:fu.length=0
    · have en:rn core.length fu.length=core.length:=by unfold rn;rw [if_neg ha,if_pos hb]
      rw [en] at ht ⊢;exact Ev.no (by simp [hb]) (fin p core.length core.length (by omega) (by omega) l1 ht)
    · have en:rn core.length fu.length=Nat.lcm core.length fu.length:=by unfold rn;rw [if_neg ha,if_neg hb]
      refine Ev.yes (decide_eq_true (by omega)) ?_;rw [en] at ht hn ⊢;exact Ev.bind (ah3 core.length fu.length (by omega) (by omega)) (fin p core.length (Nat.lcm core.length fu.length) (by omega) (by omega) hn ht)
theorem ah7 (hl:core.length≤6000):∃ b:Bool,Ev (fun k=>agC.f k p c core odd) b∧(b=true↔∃ l∈core,l≠[]):=by
  obtain ⟨b,b1,b2⟩:=aht (core:=core) true false hl;unfold agC.f;rw [ajs];cases b with
  | true =>
    refine ⟨false,b1,fun h=>(by cases h),fun ⟨l,hl,hn⟩=>absurd (b2.1 rfl l hl) hn⟩
  | false =>
    refine ⟨true,b1,fun _=>Classical.byContradiction fun hx => ?_,fun _=>rfl⟩;exact absurd (b2.2 fun l hl=>Classical.byContradiction fun hn=>hx ⟨l,hl,hn⟩) (by simp)
theorem aiF {A B:Fm} (H:OfH A B):∃ b:Bool,Ev (fun k=>agO.f k A.f0 A.f1 A.f2 A.f3 B.f0 B.f1 B.f2 B.f3) (b,0)∧(b=true↔mG A B):=by
  have r1:=agX H.sa H.sb H.n H.t;have r2:=agX H.sb H.sa (by rw [aeN];exact H.n) H.t';obtain ⟨ga,g1,g2⟩:=ah7 (p:=A.f0) (c:=A.f1) (core:=A.f2) (odd:=A.f3) H.sa.hl;obtain ⟨gb,g3,g4⟩:=ah7 (p:=B.f0) (c:=B.f1) (core:=B.f2) (odd:=B.f3) H.sb.hl;unfold agO.f;cases ga with
  | false =>
    refine ⟨true,Ev.bind r1 (Ev.bind r2 (Ev.bind g1 (Ev.yes rfl (Ev.now _)))),fun _=>.inl (Classical.byContradiction fun hn => ?_),fun _=>rfl⟩;exact absurd (g2.2 (H.ga hn)) (by simp)
  | true =>
  cases gb with
  | false =>
    refine ⟨true,Ev.bind r1 (Ev.bind r2 (Ev.bind g1 (Ev.no (by simp) (Ev.bind g3 (Ev.yes rfl (Ev.now _)))))),fun _=>.inr (.inl (Classical.byContradiction fun hn => ?_)),fun _=>rfl⟩;exact absurd (g4.2 (H.gb hn)) (by simp)
  | true =>
    refine ⟨decide (tF A B=tF B A),Ev.bind r1 (Ev.bind r2 (Ev.bind g1 (Ev.no (by simp) (Ev.bind g3 (Ev.no (by simp) (Ev.now _)))))),?_⟩;rw [decide_eq_true_eq];constructor
    · exact fun e=>.inr (.inr e)
    · intro e
      obtain ⟨l,hl,hn⟩:=g2.1 rfl;obtain ⟨l',hl',hn'⟩:=g4.1 rfl;rcases e with e | e | e
      · rw [e] at hl;simp at hl
      · rw [e] at hl';simp at hl'
      · exact e
theorem aiG {A B:Fm} (hl:A.f3.length+B.f3.length≤100000):Ev (fun k=>afv.f k A.f0 A.f1 A.f2 A.f3 B.f0 B.f1 B.f2 B.f3) (iK A B):=by
  have key:∀ (L:List Gn),L.length≤100000→∀ (rest pre:List Gn),L=pre++rest→∀ (m:List Int),Up m→m.length+rest.length≤200000→∃ m',Up m'∧(∀ x,x∈m'↔x∈m∨∃ g∈rest,g.f0=x)∧m'.length≤m.length+rest.length∧∀ {β:Type} (X:Nat→List Int→Option β) (v:β),Ev (fun k=>X k m') v→Ev (fun k=>afv.l0 (X k) L k m (pre.length:Int)) v:=by
    intro L hL rest;induction rest with
    | nil =>
      intro pre hp m hm hl;have c1:¬ (pre.length:Int)<(L.length:Int):=by rw [hp];simp
      refine ⟨m,hm,fun x=>by simp,by simp,fun X v hX=>Ev.step (fun k=>rfl) ?_⟩;simp only [afv.l0,afv.l0T,decide_eq_true_eq,c1,if_false];exact Ev.shift hX
    | cons g t ih =>
      intro pre hp m hm hl;have hlen:pre.length+1≤L.length:=by rw [hp];simp
      have hrd:gG L (pre.length:Int)=g:=by simp [hp,gG]
      have c1:(pre.length:Int)<(L.length:Int):=by omega
      have c2:(0:Int)≤(pre.length:Int):=by omega
      have hw:=nx c1 c2 (by omega);have il:=ahz m g.f0;simp only [List.length_cons] at hl;obtain ⟨m',u,mem,ln,go⟩:=ih (pre++[g]) (by rw [hp];simp) (ins m g.f0) (aiN hm _) (by omega);refine ⟨m',u,fun x => ?_,by simp only [List.length_cons];omega,fun X v hX=>Ev.step (fun k=>rfl) ?_⟩
      · rw [mem,air,or_assoc]
        constructor
        · rintro (h | h | ⟨g',hg',e⟩)
          · exact .inl h
          · exact .inr ⟨g,by simp,h.symm⟩
          · exact .inr ⟨g',by simp [hg'],e⟩
        · rintro (h | ⟨g',hg',e⟩)
          · exact .inl h
          · rcases List.mem_cons.1 hg' with rfl | hg'
            · exact .inr (.inl e.symm)
            · exact .inr (.inr ⟨g',hg',e⟩)
      · simp only [afv.l0,afv.l0T,decide_eq_true_eq,c1,c2,if_true,hrd,hw,akm]
        refine Ev.bind (ahD m g.f0 (by omega)) ?_;rw [len1 pre g];exact go (fun k=>X (k+1)) v (Ev.shift hX)
  obtain ⟨m1,u1,mem1,aa,go1⟩:=key A.f3 (by omega) A.f3 [] rfl [] List.Pairwise.nil (by simp;omega);simp at aa;obtain ⟨m2,u2,mem2,ab,go2⟩:=key B.f3 (by omega) B.f3 [] rfl m1 u1 (by omega);have e:m2=iK A B:=yJ u2 (yK A B) fun x=>by
    rw [mem2,mem1,qE];simp
  unfold afv.f;rw [ajt];refine go1 (fun k y4=>afv.l0 (fun y8=>some y8) B.f3 k y4 0) _ ?_;refine go2 (fun k y8=>some y8) _ ?_;rw [e];exact Ev.now _
theorem ain {a b:List Sp} (ha:SL (-1099511627776) 1099511627776 a) (hb:SL (-1099511627776) 1099511627776 b) (hl:a.length+b.length≤100000000):∃ r:Bool,Ev (fun k=>agM.f k a b) r∧(r=true↔a=b):=by
  have bd:∀ {l:List Sp},SL (-1099511627776) 1099511627776 l→∀ s∈l,-1099511627776≤s.f0∧s.f0≤s.f1∧s.f1≤1099511627776:=fun h s hs=>SL.ticks h hs;obtain ⟨r1,e1,s1,h1⟩:=aij 3 (-1099511627776) 1099511627776 (by omega) (by omega) a b (bd ha) (bd hb) hl;obtain ⟨r2,e2,s2,h2⟩:=aij 3 (-1099511627776) 1099511627776 (by omega) (by omega) b a (bd hb) (bd ha) (by omega);have k3:∀ x y:Bool,kindOf 3 x y=(x && !y):=fun x y=>rfl;have aa:∀ {r:List Sp} {a b:List Sp},SL (-1099511627776) 1099511627776 r→(∀ x,vL r x=kindOf 3 (vL a x) (vL b x))→(r=[]↔∀ x,vL a x=true→vL b x=true):=fun {r a b} hr h=>by
    constructor
    · rintro rfl x hx
      have:=h x;rw [k3,hx] at this;cases hb:vL b x with
      | true=>rfl
      | false=>rw [hb] at this;simp [vL] at this
    · intro hall
      refine SL.uniq hr (m:=[]) (lo':=0) (hi':=0) trivial fun x => ?_;rw [h x,k3];cases ha:vL a x with
      | false=>simp [vL]
      | true=>rw [hall x ha];simp [vL]
  have n1:=aa s1 h1;have n2:=aa s2 h2;have both:a=b↔r1=[]∧r2=[]:=by
    rw [n1,n2];constructor
    · rintro rfl;exact ⟨fun x h=>h,fun x h=>h⟩
    · rintro ⟨q1,q2⟩
      refine SL.uniq ha hb fun x => ?_;rw [Bool.eq_iff_iff];exact ⟨q1 x,q2 x⟩
  unfold agM.f;by_cases z1:r1=[]
  · by_cases z2:r2=[]
    · refine ⟨true,Ev.bind e1 (Ev.yes (by rw [z1];rfl) (Ev.bind e2 ?_)),fun _=>both.2 ⟨z1,z2⟩,fun _=>rfl⟩
      rw [z2];exact Ev.now _
    · refine ⟨false,Ev.bind e1 (Ev.yes (by rw [z1];rfl) (Ev.bind e2 ?_)),fun h=>(by cases h),fun h=>absurd (both.1 h).2 z2⟩
      have:decide ((r2.length:Int)=0)=false:=decide_eq_false (by have:=List.length_pos_iff.2 z2;omega);rw [this];exact Ev.now _
  · exact ⟨false,Ev.bind e1 (Ev.no (by have:=List.length_pos_iff.2 z1;simp;omega) (Ev.now _)),fun h=>(by cases h),fun h=>absurd (both.1 h).1 z1⟩
theorem aio (h:SF p c core odd) (i:Int) (hi : -6000≤i∧i≤6000) (hp:p≤100000000) (hm:∀ s∈bT p c core i,-1099511627776≤s.f0∧s.f1≤1099511627776):Ev (fun k=>agQ.f k p c core odd i) (bT p c core i,0):=by
  have hc:=h.hc;have p0:=h.hp0;unfold agQ.f;simp only [decide_eq_true_eq];by_cases hz:c=0
  · refine Ev.yes hz ?_
    have:bT p c core i=[]:=by unfold bT fO;rw [if_pos hz];rfl
    rw [this];exact Ev.now _
  · have c0:0<c:=by omega
    have hl:=h.hl;have q1:=Int.emod_nonneg i hz;have q2:=Int.emod_lt_of_pos i c0;have hd:=ag6 hi c0;have hmu : -6000*100000000≤i / c*p∧i / c*p≤6000*100000000:=by
      constructor
      · have h1 : -6000*p≤i / c*p:=Int.mul_le_mul_of_nonneg_right hd.1 p0
        omega
      · have h1:i / c*p≤6000*p:=Int.mul_le_mul_of_nonneg_right hd.2 p0
        omega
    have hp1:p≠0:=fun e=>by have:=h.hz.2 e;omega
    have hrd:gL core (i % c)=fO c core i:=by
      unfold fO;rw [if_neg hz]
    refine Ev.no hz (Ev.bind (Ev.val (ahF 0 i c (by omega) (by omega))) (Ev.yes q1 (Ev.yes (show i % c<(core.length:Int) by omega) ?_)));simp only [hrd];by_cases hn:fO c core i=[]
    · refine Ev.yes (by rw [hn];rfl) ?_
      have:bT p c core i=[]:=by unfold bT;rw [hn];rfl
      rw [this];exact Ev.now _
    · have d1:(21990:Int)≤2199023255552 / p:=(Int.le_ediv_iff_mul_le (by omega)).2 (by omega)
      have d2:2199023255552 / p≤2199023255552:=Int.ediv_le_self _ (by omega);have t1:Int.tdiv 2199023255552 p=2199023255552 / p:=Int.tdiv_eq_ediv_of_nonneg (by omega);have t2:Int.tdiv (-2199023255552) p = -(2199023255552 / p):=by rw [Int.neg_tdiv,t1]
      rw [t1,t2,iJ (n:=2199023255552 / p) (by omega) (by omega),iJ (n := -(2199023255552 / p)) (by omega) (by omega),iJ (n:=2199023255552 / p+1) (by omega) (by omega),iJ (n := -(2199023255552 / p) - 1) (by omega) (by omega),iJ (n:=i / c*p) (by omega) (by omega)];refine Ev.no (by have:=List.length_pos_iff.2 hn;omega) (Ev.no hp1 (Ev.no (by omega) (Ev.no hp1 (Ev.no (by omega) ?_))));have hS:SL (-1099511627776) 1099511627776 (fO c core i):=h.hcore _ (h.jq i hz);have hok:(fO c core i).all (okM (i / c*p))=true:=List.all_eq_true.2 fun s hs=>qy.2 (by
        have:=hm (eO (i / c*p) s) (List.mem_map_of_mem hs);have q:=SL.ticks hS hs;simp only [eO] at this;omega)
      have hmo:lU (i / c*p) (fO c core i)=(bT p c core i,0):=by unfold lU;rw [if_pos hok];rfl
      refine Ev.bind (ah5 _ _ hS (by omega)) ?_;rw [hmo];exact Ev.now _
end Go.Proofs.YtcomnjodjijcmaaGreat.Q
