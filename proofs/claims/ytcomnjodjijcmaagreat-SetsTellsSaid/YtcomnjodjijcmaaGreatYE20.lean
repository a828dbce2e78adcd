/- Lemmas for laws of chapter 7: what the functions that they reach compute. No condition of its own. -/
import Derived.Test.YtcomnjodjijcmaaGreatYE19
namespace Go.Proofs.YtcomnjodjijcmaaGreat.Q
set_option linter.unusedVariables false
set_option linter.unusedSimpArgs false
open Go.RowKit Go.Proofs.YtcomnjodjijcmaaGreatW.dz Go.Proofs.YtcomnjodjijcmaaGreatW.eD M R P
theorem oz {l:List Sp} (h:SL (-1099511627776) 1099511627776 l):lU 0 l=(l,0):=by
  unfold lU;rw [if_pos (List.all_eq_true.2 fun s hs=>qy.2 (by have:=SL.ticks h hs;omega))];have:l.map (eO 0)=l:=(List.map_congr_left (fun s _=>show eO 0 s=id s by simp [eO])).trans (List.map_id l);rw [this]
section
variable {p c:Int} {core:List (List Sp)} {odd:List Gn}
theorem yF {l:List Sp} {x:Int}:vL l x=true↔∃ s∈l,s.f0≤x∧x≤s.f1:=vB
def thV (p c:Int) (core:List (List Sp)) (odd:List Gn) (i:Int):List Sp:=(jm p c core odd i).1
theorem zO (h:SF p c core odd) (i:Int):(Ex p c core odd i∧jm p c core odd i=(gT p c core odd i,0)∧gT p c core odd i≠[])∨(¬ Ex p c core odd i∧(jm p c core odd i).1=[]):=by
  by_cases e:Ex p c core odd i
  · exact .inl ⟨e,h.ou e,(kD e.n).1⟩
  · refine .inr ⟨e,?_⟩
    by_cases hn:fs c core odd i=[]
    · unfold jm;split
      · simp [hn]
      · rfl
    · rw [h.abf hn e]
theorem vG {α:Type} (f:α→Int) (b:Int):∀ {l:List α},(∀ x∈l,f x≤b)→(l.map f).sum≤l.length*b
  | [],_=>by simp
  | x :: r,h=>by
    have:=vG f b (l:=r) (fun y hy=>h y (by simp [hy]));have:=h x (by simp);rw [List.map_cons,List.sum_cons,List.length_cons];rw [Int.natCast_add,Int.add_mul];omega
theorem wQ {α:Type} (f:α→Int) (h0:∀ x,0≤f x):∀ {l:List α} {x:α},x∈l→f x≤(l.map f).sum
  | [],x,h=>by cases h
  | y :: r,x,h=>by
    have hs:0≤(r.map f).sum:=qB (fun z hz=>by obtain ⟨a,_,rfl⟩:=List.mem_map.1 hz;exact h0 a);rw [List.map_cons,List.sum_cons];rcases List.mem_cons.1 h with rfl | h
    · omega
    · have:=wQ f h0 h
      have:=h0 y;omega
theorem aeH (h:SF p c core odd):kS core odd≤9223372036854775807:=by
  have h1:=vG (fun l:List Sp=>(l.length:Int)) 2199023255553 (l:=core) (fun l hl=>by have:=SL.len (lo:=0) (h.hcore l hl);omega);have h2:=vG (fun g:Gn=>(g.f1.length:Int)) 2199023255553 (l:=odd) (fun g hg=>by have:=SL.len (lo:=0) (h.hodd g hg);omega);have:=h.hl;have:=h.hlo;unfold kS;omega
theorem afL (h:SF p c core odd) (i:Int):((fs c core odd i).length:Int)≤kS core odd:=by
  have n1:0≤(core.map fun l:List Sp=>(l.length:Int)).sum:=qB (fun z hz=>by obtain ⟨a,_,rfl⟩:=List.mem_map.1 hz;omega);have n2:0≤(odd.map fun g:Gn=>(g.f1.length:Int)).sum:=qB (fun z hz=>by obtain ⟨a,_,rfl⟩:=List.mem_map.1 hz;omega);unfold kS;unfold fs;cases ho:iW odd i with
  | some l =>
    obtain ⟨g,hg,_,e⟩:=je ho;have:=wQ (fun g:Gn=>(g.f1.length:Int)) (fun _=>by omega) hg;simp only [e] at this;simp only;omega
  | none =>
    by_cases hc:c=0
    · simp only [fO,if_pos hc];simp;omega
    · have:=wQ (fun l:List Sp=>(l.length:Int)) (fun _=>by omega) (h.jq i hc)
      simp only at this ⊢;omega
theorem abA (h:SF p c core odd) (i:Int):((gT p c core odd i).length:Int)≤kS core odd:=by
  have:=afL h i;unfold gT;rw [List.length_map];exact this
end
variable [Inhabited WT]
variable {p c:Int} {core:List (List Sp)} {odd:List Gn}
theorem zP (m:MF core odd):∃ b,Ev (fun k=>fG.f k p c core odd) b∧(b=true→FOK p c core odd∧GR p c core odd∧core.length≤12∧odd.length≤8∧kS core odd≤60):=by
  have wrong:∀ {P:Prop},false=true→P:=fun e=>by cases e
  unfold fG.f;by_cases hl:(core.length:Int)≤12
  case neg=>exact ⟨false,Ev.bind (a:=false) (Ev.congr (f:=fun _=>some false) (fun k=>by simp [eP.f,hl]) (Ev.now _)) (Ev.now _),wrong⟩
  by_cases hlo:(odd.length:Int)≤8
  case neg=>exact ⟨false,Ev.bind (a:=false) (Ev.congr (f:=fun _=>some false) (fun k=>by simp [eP.f,hl,hlo]) (Ev.now _)) (Ev.now _),wrong⟩
  obtain ⟨n,⟨n1,n2⟩,e,e1,e2,e3,e4⟩:=nM (p:=p) (c:=c) m (by omega) (by omega);have hs:Ev (fun k=>eP.f k p c core odd) (decide (n≤60)):=by
    simp only [eP.f,decide_eq_true_eq,hl,hlo,if_true];exact Ev.bind n1 (Ev.now _)
  by_cases hn:n≤60
  · refine ⟨decide (e=0),Ev.bind hs (Ev.yes (by simpa using hn) (Ev.bind e1 (Ev.now _))),fun he => ?_⟩
    have:=e4.1 (by simpa using he);exact ⟨this.2.fok,this.2,by omega,by omega,by have:=n2 (aeH this.2.s);omega⟩
  · exact ⟨false,Ev.bind hs (Ev.no (by simpa using hn) (Ev.now _)),wrong⟩
end Go.Proofs.YtcomnjodjijcmaaGreat.Q
namespace Go.Proofs.YtcomnjodjijcmaaGreat.Q
set_option linter.unusedVariables false
set_option linter.unusedSimpArgs false
open Go.RowKit Go.Proofs.YtcomnjodjijcmaaGreatW.dz Go.Proofs.YtcomnjodjijcmaaGreatW.eD M R P
section
variable {p c:Int} {core:List (List Sp)} {odd:List Gn}
theorem ai1 (h:SF p c core odd) {i s m:Int} {n:Nat} (t:T1 odd i s n m):inR m:=by
  obtain ⟨j,hj,_,e,_⟩:=t;rw [← e];exact h.hidx _ (List.getElem_mem hj)
theorem ai2 (h:SF p c core odd) {i s m:Int} {n:Nat} (hw:∀ q:Nat,q<n→inR (i+(q:Int)*s)) (t:T2 c core odd i s n m):inR m:=by
  rcases t with t | ⟨q,q1,q2,_⟩
  · exact ai1 h t
  · rw [q2];exact hw q q1
theorem aja {i s m:Int}:¬ T1 odd i s 0 m:=fun ⟨_,_,a,_⟩=>by omega
structure Nrs (c:Int) (core:List (List Sp)) (odd:List Gn) (s i:Int) (r:Int × Bool):Prop where
  y:r.2=true→0≤(r.1 - i)*s∧inR r.1∧fs c core odd r.1≠[]∧∀ m,0≤(m - i)*s→(m - r.1)*s<0→fs c core odd m=[]
  n:r.2=false→r.1=0∧∀ m,0≤(m - i)*s→inR m→fs c core odd m=[]
  w:r.2=true→(∃ g∈odd,g.f0=r.1)∨∃ q:Nat,(q:Int)≤c*((odd.length:Int)+1)+2∧r.1=i+(q:Int)*s
theorem ai3 (h:SF p c core odd) {i s:Int} (hs:s=1∨s = -1) (hi:inR i) {K:Nat} (hK:(K:Int)=c*((odd.length:Int)+1)+2∨¬ inR (i+(K:Int)*s)) (hF:(K:Int)≤c*((odd.length:Int)+1)+2) (hw:∀ q:Nat,q<K→inR (i+(q:Int)*s)) {b:Bool} {a:Int} (f:Fnd s (T2 c core odd i s K) b a):Nrs c core odd s i (a,b):=by
  refine ⟨fun e => ?_,fun e => ?_,fun e => ?_⟩
  · obtain ⟨t,lo⟩:=f.y e
    have ha:=ai2 h hw t;have h0:0≤(a - i)*s:=by
      rcases t with ⟨j,hj,_,e1,_,e2⟩ | ⟨q,_,e1,_⟩
      · exact e2
      · rcases hs with rfl | rfl <;> omega
    refine ⟨h0,ha,?_,fun m m1 m2 => ?_⟩
    · rcases t with ⟨j,hj,_,e1,e2,_⟩ | ⟨q,_,_,e1⟩
      · have:=yw h hj
        rw [e1] at this;show fs c core odd a≠[];rw [this];exact e2
      · exact e1
    · refine Classical.byContradiction fun hne => ?_
      have hm:inR m:=by
        simp only at m2;unfold inR at hi ha ⊢;rcases hs with rfl | rfl <;> omega
      obtain ⟨x,x1,x2⟩:=ai0 h hs hi hK hm m1 hne;have:=lo x x1;simp only at m2;rcases hs with rfl | rfl <;> omega
  · refine ⟨(f.n e).1,fun m m1 m2 => ?_⟩
    refine Classical.byContradiction fun hne => ?_;obtain ⟨x,x1,x2⟩:=ai0 h hs hi hK m2 m1 hne;exact (f.n e).2 x x1
  · obtain ⟨t,_⟩:=f.y e
    rcases t with ⟨j,hj,_,e1,_⟩ | ⟨q,q1,q2,_⟩
    · exact Or.inl ⟨_,List.getElem_mem hj,e1⟩
    · exact Or.inr ⟨q,by omega,q2⟩
end
variable [Inhabited WT]
variable {p c:Int} {core:List (List Sp)} {odd:List Gn}
theorem agW (h:SF p c core odd) (i:Int):Ev (fun k=>agF.f k p c core odd i) (jm p c core odd i):=by
  unfold agF.f;simp only [decide_eq_true_eq];by_cases g1:i < -1099511627776
  · have:jm p c core odd i=([],20):=by unfold jm;rw [if_neg (by unfold inR;omega)]
    rw [this];exact Ev.yes g1 (Ev.now _)
  refine Ev.no g1 ?_;by_cases g2:i>1099511627776
  · have:jm p c core odd i=([],20):=by unfold jm;rw [if_neg (by unfold inR;omega)]
    rw [this];exact Ev.yes g2 (Ev.now _)
  refine Ev.no g2 ?_;have hr:inR i:=by unfold inR;omega
  obtain ⟨q,q1,q2,q3,q4,q5⟩:=ahG h i (by omega);refine Ev.bind q1 ?_;have aa:=h.sS i;have hl:=SL.len (lo:=0) aa;have c3:0+(fs c core odd i).length≤8796093022208:=by omega
  unfold jm;rw [if_pos hr];simp only [c3,if_true];by_cases hz:fs c core odd i=[]
  · rw [if_pos hz]
    refine Ev.yes (by simp [hz]) ?_;rw [hz];exact Ev.now _
  rw [if_neg hz];have hlen:¬ ((fs c core odd i).length:Int)=0:=by
    intro e;exact hz (List.eq_nil_of_length_eq_zero (by omega))
  refine Ev.no hlen ?_;by_cases hq:q=0
  · have hm:lU (fb p c odd i) (fs c core odd i)=(fs c core odd i,0):=by rw [q2,hq,Int.zero_mul,oz aa]
    rw [hm];exact Ev.yes hq (Ev.now _)
  refine Ev.no hq ?_;have hp0:=h.hp0;have hp1:=h.hp1;have hpz:¬ p=0:=fun e=>hq (q3 (h.hz.2 e));have hpp:0<p:=by omega
  have d1:Int.tdiv 2199023255552 p=2199023255552 / p:=Int.tdiv_eq_ediv_of_nonneg (by omega);have d2:Int.tdiv (-2199023255552) p = -(2199023255552 / p):=by rw [Int.neg_tdiv,d1]
  have e1:2199023255552 / p*p≤2199023255552:=Int.ediv_mul_le _ hpz;have e2:2199023255552<(2199023255552 / p+1)*p:=Int.lt_ediv_add_one_mul_self _ hpp;have e3:=abm (a:=2199023255552) (b:=p) (by omega) hpp;have e4:0≤2199023255552 / p:=Int.ediv_nonneg (by omega) (by omega);have ab:=aa.ends hz;refine Ev.no hpz ?_;rw [d1,d2,iJ (n:=2199023255552 / p) (by omega) (by omega),iJ (n:=2199023255552 / p+1) (by omega) (by omega),iJ (n := -(2199023255552 / p)) (by omega) (by omega),iJ (n := -(2199023255552 / p) - 1) (by omega) (by omega)];have bad:∀ {n:Int},(2199023255552<n∨n < -2199023255552)→lU n (fs c core odd i)=([],20):=fun {n} hn=>by
    unfold lU;rw [if_neg];rw [aa.nL hz];omega
  by_cases k1:q>2199023255552 / p+1
  · rw [q2,bad (Or.inl ?_)]
    · exact Ev.yes k1 (Ev.now _)
    · have:(2199023255552 / p+1)*p≤q*p:=Int.mul_le_mul_of_nonneg_right (by omega) hp0
      omega
  refine Ev.no k1 (Ev.no hpz ?_);by_cases k2:q < -(2199023255552 / p) - 1
  · rw [q2,bad (Or.inr ?_)]
    · exact Ev.yes k2 (Ev.now _)
    · have:q*p≤(-(2199023255552 / p+1))*p:=Int.mul_le_mul_of_nonneg_right (by omega) hp0
      rw [Int.neg_mul] at this;omega
  refine Ev.no k2 ?_;have f1:q*p≤(2199023255552 / p+1)*p:=Int.mul_le_mul_of_nonneg_right (by omega) hp0;have f2:(-(2199023255552 / p+1))*p≤q*p:=Int.mul_le_mul_of_nonneg_right (by omega) hp0;rw [Int.neg_mul] at f2;have f3:(2199023255552 / p+1)*p=2199023255552 / p*p+p:=by rw [Int.add_mul,Int.one_mul]
  rw [q2,iJ (n:=q*p) (by omega) (by omega)];exact Ev.bind (f:=fun _ a=>some (a.1,a.2)) (ah5 (fs c core odd i) (q*p) aa (by omega)) (Ev.now _)
theorem aiU (h:SF p c core odd) {i s:Int} (hs:s=1∨s = -1) (hi:inR i) {β:Type}:∀ (d n:Nat),odd.length - n=d→n≤odd.length→∀ (b:Bool) (a:Int),Fnd s (T1 odd i s n) b a→∃ b' a',Fnd s (T1 odd i s odd.length) b' a'∧∀ (Y:Nat→Bool→Int→Option β) (r:β),Ev (fun k=>Y k b' a') r→Ev (fun k=>r9.l0 (Y k) i s odd k b a (n:Int)) r:=by
  have hlo:=h.hlo;intro d;induction d with
  | zero =>
    intro n hd hn b a hF;have hnn:n=odd.length:=by omega
    subst hnn;refine ⟨b,a,hF,fun Y r hY => ?_⟩;have c1:¬ (odd.length:Int)<(odd.length:Int):=by omega
    refine Ev.step (fun k=>rfl) ?_;simp only [r9.l0,r9.l0T,decide_eq_true_eq,c1,if_false];exact Ev.shift hY
  | succ d ih =>
    intro n hd hn b a hF;have hlt:n<odd.length:=by omega
    have c1:(n:Int)<(odd.length:Int):=by omega
    have c2:(0:Int)≤(n:Int):=by omega
    have hrd:=rdG odd n hlt;have hw:wq ((n:Int)+1)=((n+1:Nat):Int):=by rw [iJ (by omega) (by omega)];simp
    have hg:=h.hidx _ (List.getElem_mem hlt);have hi':=hi;unfold inR at hg hi';have w1:wq (odd[n].f0 - i)=odd[n].f0 - i:=iJ (by omega) (by omega);have w2:wq ((odd[n].f0 - i)*s)=(odd[n].f0 - i)*s:=by rcases hs with rfl | rfl <;> exact iJ (by omega) (by omega)
    by_cases g1:odd[n].f1≠[]
    case neg =>
      obtain ⟨b',a',F,E⟩:=ih (n+1) (by omega) (by omega) b a (hF.to (ajq hlt (fun x=>g1 x.1)));refine ⟨b',a',F,fun Y r hY=>Ev.step (fun k=>rfl) ?_⟩;simp only [r9.l0,r9.l0T,decide_eq_true_eq,c1,c2,if_true,hrd,hw,w1,w2];exact Ev.no (by simp at g1;simp [g1]) (E (fun k=>Y (k+1)) r (Ev.shift hY))
    have q1:(odd[n].f1.length:Int)>0:=by have:=List.length_pos_iff.2 g1;omega
    by_cases g2:0≤(odd[n].f0 - i)*s
    case neg =>
      obtain ⟨b',a',F,E⟩:=ih (n+1) (by omega) (by omega) b a (hF.to (ajq hlt (fun x=>g2 x.2)));refine ⟨b',a',F,fun Y r hY=>Ev.step (fun k=>rfl) ?_⟩;simp only [r9.l0,r9.l0T,decide_eq_true_eq,c1,c2,if_true,hrd,hw,w1,w2];exact Ev.yes q1 (Ev.no (by omega) (E (fun k=>Y (k+1)) r (Ev.shift hY)))
    cases b with
    | false =>
      obtain ⟨b',a',F,E⟩:=ih (n+1) (by omega) (by omega) true odd[n].f0 ((hF.put _).to (aiP hlt g1 g2));refine ⟨b',a',F,fun Y r hY=>Ev.step (fun k=>rfl) ?_⟩;simp only [r9.l0,r9.l0T,decide_eq_true_eq,c1,c2,if_true,hrd,hw,w1,w2];exact Ev.yes q1 (Ev.yes g2 (Ev.yes rfl (E (fun k=>Y (k+1)) r (Ev.shift hY))))
    | true =>
      have ha:=ai1 h (hF.y rfl).1;unfold inR at ha;have w3:wq (odd[n].f0 - a)=odd[n].f0 - a:=iJ (by omega) (by omega);have w4:wq ((odd[n].f0 - a)*s)=(odd[n].f0 - a)*s:=by rcases hs with rfl | rfl <;> exact iJ (by omega) (by omega)
      by_cases g3:(odd[n].f0 - a)*s<0
      · obtain ⟨b',a',F,E⟩:=ih (n+1) (by omega) (by omega) true odd[n].f0 ((hF.less hs g3).to (aiP hlt g1 g2))
        refine ⟨b',a',F,fun Y r hY=>Ev.step (fun k=>rfl) ?_⟩;simp only [r9.l0,r9.l0T,decide_eq_true_eq,c1,c2,if_true,hrd,hw,w1,w2,w3,w4];exact Ev.yes q1 (Ev.yes g2 (Ev.no (by simp) (Ev.yes g3 (E (fun k=>Y (k+1)) r (Ev.shift hY)))))
      · obtain ⟨b',a',F,E⟩:=ih (n+1) (by omega) (by omega) true a ((hF.keep g3).to (aiP hlt g1 g2))
        refine ⟨b',a',F,fun Y r hY=>Ev.step (fun k=>rfl) ?_⟩;simp only [r9.l0,r9.l0T,decide_eq_true_eq,c1,c2,if_true,hrd,hw,w1,w2,w3,w4];exact Ev.yes q1 (Ev.yes g2 (Ev.no (by simp) (Ev.no g3 (E (fun k=>Y (k+1)) r (Ev.shift hY)))))
theorem aiV (h:SF p c core odd) {i s:Int} (hs:s=1∨s = -1) (hi:inR i) {F:Nat} (ab:(F:Int)=c*((odd.length:Int)+1)+2) (hF1:F≤100000000):∀ (d n:Nat),F - n=d→n≤F→(∀ q:Nat,q<n→inR (i+(q:Int)*s))→∀ (b:Bool) (a:Int),Fnd s (T2 c core odd i s n) b a →
    ∃ r,Ev (fun k=>r9.l1 (fun y9 ac=>some (ac,y9)) i s p c core odd k b a (n:Int)) r∧Nrs c core odd s i r:=by
  have hlo:=h.hlo;have hc0:=h.hc;have hl:=h.hl;have aa:∀ k,agR.f k p c core odd=some (F:Int):=fun k=>by
    unfold agR.f;have z1:wq ((odd.length:Int)+1)=(odd.length:Int)+1:=iJ (by omega) (by omega);rw [z1,iJ (n:=c*((odd.length:Int)+1)) (by omega) (by omega),iJ (n:=c*((odd.length:Int)+1)+2) (by omega) (by omega),← ab]
  have hi':=hi;unfold inR at hi';intro d;induction d with
  | zero =>
    intro n hd hn hw b a hF;have hnn:n=F:=by omega
    subst hnn;refine ⟨(a,b),?_,ai3 h hs hi (Or.inl ab) (by omega) hw hF⟩;have c1:¬ (n:Int)<(n:Int):=by omega
    refine Ev.step (fun k=>rfl) ?_;simp only [r9.l1,r9.l1T,aa,Option.bind_some,decide_eq_true_eq,c1,if_false];exact Ev.now _
  | succ d ih =>
    intro n hd hn hw b a hF;have c1:(n:Int)<(F:Int):=by omega
    have hw1:wq ((n:Int)+1)=((n+1:Nat):Int):=by rw [iJ (by omega) (by omega)];simp
    have w1:wq ((n:Int)*s)=(n:Int)*s:=by rcases hs with rfl | rfl <;> exact iJ (by omega) (by omega)
    have w2:wq (i+(n:Int)*s)=i+(n:Int)*s:=by rcases hs with rfl | rfl <;> exact iJ (by omega) (by omega)
    by_cases hr:inR (i+(n:Int)*s)
    case neg =>
      refine ⟨(a,b),?_,ai3 h hs hi (Or.inr hr) (by omega) hw hF⟩;refine Ev.step (fun k=>rfl) ?_;simp only [r9.l1,r9.l1T,aa,Option.bind_some,decide_eq_true_eq,c1,if_true,w1,w2];unfold inR at hr;by_cases g:i+(n:Int)*s < -1099511627776
      · exact Ev.yes g (Ev.now _)
      · exact Ev.no g (Ev.yes (by omega) (Ev.now _))
    have hr':=hr;unfold inR at hr';have hw':∀ q:Nat,q<n+1→inR (i+(q:Int)*s):=fun q hq=>by
      rcases Nat.lt_or_ge q n with g | g
      · exact hw q g
      · have:q=n:=by omega
        subst this;exact hr
    have n1:¬ i+(n:Int)*s < -1099511627776:=by omega
    have n2:¬ i+(n:Int)*s>1099511627776:=by omega
    have hhas:=aiw h (i+(n:Int)*s) (by omega);by_cases g1:fs c core odd (i+(n:Int)*s)≠[]
    case neg =>
      obtain ⟨r,r1,r2⟩:=ih (n+1) (by omega) (by omega) hw' b a (hF.to (akl (Classical.byContradiction g1)));refine ⟨r,Ev.step (fun k=>rfl) ?_,r2⟩;simp only [r9.l1,r9.l1T,aa,Option.bind_some,decide_eq_true_eq,c1,if_true,w1,w2,n1,n2,if_false,hw1];exact Ev.bind hhas (Ev.no (by simpa using g1) r1)
    cases b with
    | false =>
      obtain ⟨r,r1,r2⟩:=ih (n+1) (by omega) (by omega) hw' true (i+(n:Int)*s) ((hF.put _).to (aiQ g1));refine ⟨r,Ev.step (fun k=>rfl) ?_,r2⟩;simp only [r9.l1,r9.l1T,aa,Option.bind_some,decide_eq_true_eq,c1,if_true,w1,w2,n1,n2,if_false,hw1];exact Ev.bind hhas (Ev.yes (by simpa using g1) (Ev.yes rfl r1))
    | true =>
      have ha:=ai2 h hw (hF.y rfl).1;unfold inR at ha;have w3:wq (i+(n:Int)*s - a)=i+(n:Int)*s - a:=iJ (by omega) (by omega);have w4:wq ((i+(n:Int)*s - a)*s)=(i+(n:Int)*s - a)*s:=by rcases hs with rfl | rfl <;> exact iJ (by omega) (by omega)
      by_cases g3:(i+(n:Int)*s - a)*s<0
      · obtain ⟨r,r1,r2⟩:=ih (n+1) (by omega) (by omega) hw' true (i+(n:Int)*s) ((hF.less hs g3).to (aiQ g1))
        refine ⟨r,Ev.step (fun k=>rfl) ?_,r2⟩;simp only [r9.l1,r9.l1T,aa,Option.bind_some,decide_eq_true_eq,c1,if_true,w1,w2,n1,n2,if_false,hw1,w3,w4];exact Ev.bind hhas (Ev.yes (by simpa using g1) (Ev.no (by simp) (Ev.yes g3 r1)))
      · obtain ⟨r,r1,r2⟩:=ih (n+1) (by omega) (by omega) hw' true a ((hF.keep g3).to (aiQ g1))
        refine ⟨r,Ev.step (fun k=>rfl) ?_,r2⟩;simp only [r9.l1,r9.l1T,aa,Option.bind_some,decide_eq_true_eq,c1,if_true,w1,w2,n1,n2,if_false,hw1,w3,w4];exact Ev.bind hhas (Ev.yes (by simpa using g1) (Ev.no (by simp) (Ev.no g3 r1)))
theorem ah6 (h:SF p c core odd) {i s:Int} (hs:s=1∨s = -1) (hi:inR i):∃ r,Ev (fun k=>r9.f k p c core odd i s) r∧Nrs c core odd s i r:=by
  have hc0:=h.hc;have hl:=h.hl;have hlo:=h.hlo;have hb:core.length*(odd.length+1)≤6000*6001:=Nat.mul_le_mul hl (by omega);obtain ⟨b,a,F,E⟩:=aiU (β:=Int × Bool) h hs hi odd.length 0 (by omega) (by omega) false 0 ⟨fun e=>(by cases e),fun _=>⟨rfl,fun m=>aja⟩⟩;obtain ⟨r,r1,r2⟩:=aiV h hs hi (F:=core.length*(odd.length+1)+2) (by rw [hc0];simp) (by omega) _ 0 rfl (by omega) (fun q hq=>by omega) b a (F.to (fun m=>⟨Or.inl,fun t=>by
    rcases t with t | ⟨q,q1,_⟩
    · exact t
    · omega⟩))
  refine ⟨r,?_,r2⟩;unfold r9.f;exact E (fun k y1 y2=>r9.l1 (fun y9 aa=>some (aa,y9)) i s p c core odd k y1 y2 0) r r1
theorem aik (h:SF p c core odd) (i:Int) (hi : -1099511627776≤i∧i<1099511627776):∃ r,Ev (fun k=>agH.f k p c core odd i) r∧Nrs c core odd 1 (i+1) r:=by
  obtain ⟨r,r1,r2⟩:=ah6 h (s:=1) (i:=i+1) (Or.inl rfl) (by unfold inR;omega);refine ⟨r,?_,r2⟩;unfold agH.f;simp only [decide_eq_true_eq];refine Ev.no (by omega) (Ev.no (by omega) ?_);rw [iJ (n:=i+1) (by omega) (by omega)];exact Ev.bind (f:=fun _ a=>some (a.1,a.2)) r1 (Ev.now _)
theorem ail (h:SF p c core odd) (i:Int) (hi : -1099511627776<i∧i≤1099511627776):∃ r,Ev (fun k=>agI.f k p c core odd i) r∧Nrs c core odd (-1) (i - 1) r:=by
  obtain ⟨r,r1,r2⟩:=ah6 h (s := -1) (i:=i - 1) (Or.inr rfl) (by unfold inR;omega);refine ⟨r,?_,r2⟩;unfold agI.f;simp only [decide_eq_true_eq];refine Ev.no (by omega) (Ev.no (by omega) ?_);rw [iJ (n:=i - 1) (by omega) (by omega)];exact Ev.bind (f:=fun _ a=>some (a.1,a.2)) r1 (Ev.now _)
end Go.Proofs.YtcomnjodjijcmaaGreat.Q
namespace Go.Proofs.YtcomnjodjijcmaaGreat.Q
set_option linter.unusedVariables false
set_option linter.unusedSimpArgs false
open Go.RowKit Go.Proofs.YtcomnjodjijcmaaGreatW.dz Go.Proofs.YtcomnjodjijcmaaGreatW.eD M R P
section
variable {p c:Int} {core:List (List Sp)} {odd:List Gn}
theorem abv (k:Nat) (l:List Sp) (h:l.length≤8796093022208):d9.f k l=some l:=by
  unfold d9.f;rw [if_pos h]
theorem o9 (n:Int) {a b:List Sp}:b=a.map (eO n)↔a.length=b.length∧∀ j (h1:j<a.length) (h2:j<b.length),b[j].f0 - a[j].f0=n∧b[j].f1 - a[j].f1=n:=by
  constructor
  · rintro rfl
    refine ⟨by simp,fun j h1 h2 => ?_⟩;simp only [List.getElem_map,eO];omega
  · rintro ⟨e,h⟩
    refine List.ext_getElem (by simp [e]) (fun j h1 h2 => ?_);have h3:j<a.length:=by omega
    have:=h j h3 h1;simp only [List.getElem_map,eO];cases hb:b[j] with
    | mk x y=>rw [hb] at this;simp only at this;rw [show x=a[j].f0+n by omega,show y=a[j].f1+n by omega]
def wP (p:Int) (core:List (List Sp)) (d:Nat) (n:Int):Prop:=∀ i (hi:i<core.length),(∀ h:i+d<core.length,core[i+d]=core[i].map (eO n))∧(¬ i+d<core.length→∀ h:i+d - core.length<core.length,core[i+d - core.length]=core[i].map (eO (n - p)))
end
variable [Inhabited WT]
variable {p c:Int} {core:List (List Sp)} {odd:List Gn}
theorem abw (a b:List Sp) (hl:a.length≤4611686018427387904):∃ r,Ev (fun k=>gX.f k a b) r∧(r=true↔a=b):=by
  unfold gX.f dx.f;by_cases e:a.length=b.length
  case neg=>exact ⟨false,Ev.bind (f:=fun _ a=>some a) (Ev.yes (by simp;omega) (Ev.now _)) (Ev.now _),fun q=>(by cases q),fun q=>absurd (congrArg List.length q) e⟩
  have key:∀ (d n:Nat),a.length - n=d→n≤a.length→(∀ j (h1:j<a.length) (h2:j<b.length),j<n→a[j]=b[j])→∃ r,Ev (fun k=>dx.l0 (some false) (some true) a b (a.length:Int) k (n:Int)) r∧(r=true↔a=b):=by
    intro d;induction d with
    | zero =>
      intro n hd hn hi;refine ⟨true,Ev.step (fun k=>rfl) ?_,fun _=>List.ext_getElem e (fun j h1 h2=>hi j h1 h2 (by omega)),fun _=>rfl⟩;have c1:¬ (n:Int)<(a.length:Int):=by omega
      simp only [dx.l0,dx.l0T,decide_eq_true_eq,c1,if_false];exact Ev.now _
    | succ d ih =>
      intro n hd hn hi;have h1:n<a.length:=by omega
      have h2:n<b.length:=by omega
      have c1:(n:Int)<(a.length:Int):=by omega
      have c2:(0:Int)≤(n:Int):=by omega
      have c3:(n:Int)<(b.length:Int):=by omega
      have hw:wq ((n:Int)+1)=((n+1:Nat):Int):=by rw [iJ (by omega) (by omega)];simp
      by_cases q:a[n].f0=b[n].f0∧a[n].f1=b[n].f1
      · obtain ⟨r,r1,r2⟩:=ih (n+1) (by omega) (by omega) (fun j g1 g2 hj=>by
          rcases Nat.lt_or_ge j n with g | g
          · exact hi j g1 g2 g
          · have:j=n:=by omega
            subst this;cases ha:a[j] with
            | mk x y =>
              cases hb:b[j] with
              | mk z w=>rw [ha,hb] at q;simp only at q;rw [q.1,q.2])
        refine ⟨r,Ev.step (fun k=>rfl) ?_,r2⟩;simp only [dx.l0,dx.l0T,decide_eq_true_eq,c1,c2,c3,if_true,hw,abZ a n h1,abZ b n h2];exact Ev.no (by simp [q.1,q.2]) r1
      · refine ⟨false,Ev.step (fun k=>rfl) ?_,fun z=>(by cases z),fun z=>absurd ⟨by simp [z],by simp [z]⟩ q⟩
        simp only [dx.l0,dx.l0T,decide_eq_true_eq,c1,c2,c3,if_true,hw,abZ a n h1,abZ b n h2];refine Ev.yes ?_ (Ev.now _);simp only [Bool.not_eq_true',Bool.and_eq_false_iff,beq_eq_false_iff_ne];by_cases q1:a[n].f0=b[n].f0
        · exact Or.inr (fun q2=>q ⟨q1,q2⟩)
        · exact Or.inl q1
  obtain ⟨r,r1,r2⟩:=key a.length 0 (by omega) (by omega) (fun j _ _ h=>by omega);exact ⟨r,Ev.bind (f:=fun _ a=>some a) (Ev.no (by simp [e]) r1) (Ev.now _),r2⟩
theorem rJ {a b:List Sp} (ha:SL (-1099511627776) 1099511627776 a) (hb:SL (-1099511627776) 1099511627776 b) (n:Int):∃ r,Ev (fun k=>dN.f k a b n) r∧(r=true↔b=a.map (eO n)):=by
  unfold dN.f;have la:=ha.vE;by_cases e:a.length=b.length
  case neg=>exact ⟨false,Ev.yes (by simp;omega) (Ev.now _),fun q=>(by cases q),fun q=>absurd ((o9 n).1 q).1 e⟩
  have key:∀ (d m:Nat),a.length - m=d→m≤a.length→(∀ j (h1:j<a.length) (h2:j<b.length),j<m→b[j].f0 - a[j].f0=n∧b[j].f1 - a[j].f1=n)→∃ r,Ev (fun k=>dN.l0 (some false) (some true) b a (a.length:Int) n k (m:Int)) r∧(r=true↔b=a.map (eO n)):=by
    intro d;induction d with
    | zero =>
      intro m hd hm hi;refine ⟨true,Ev.step (fun k=>rfl) ?_,fun _=>(o9 n).2 ⟨e,fun j h1 h2=>hi j h1 h2 (by omega)⟩,fun _=>rfl⟩;have c1:¬ (m:Int)<(a.length:Int):=by omega
      simp only [dN.l0,dN.l0T,decide_eq_true_eq,c1,if_false];exact Ev.now _
    | succ d ih =>
      intro m hd hm hi;have h1:m<a.length:=by omega
      have h2:m<b.length:=by omega
      have c1:(m:Int)<(a.length:Int):=by omega
      have c2:(0:Int)≤(m:Int):=by omega
      have c3:(m:Int)<(b.length:Int):=by omega
      have hw:wq ((m:Int)+1)=((m+1:Nat):Int):=by rw [iJ (by omega) (by omega)];simp
      have ta:=SL.ticks ha (List.getElem_mem h1);have tb:=SL.ticks hb (List.getElem_mem h2);have w1:wq (b[m].f0 - a[m].f0)=b[m].f0 - a[m].f0:=iJ (by omega) (by omega);have w2:wq (b[m].f1 - a[m].f1)=b[m].f1 - a[m].f1:=iJ (by omega) (by omega);by_cases q1:b[m].f0 - a[m].f0=n
      · by_cases q2:b[m].f1 - a[m].f1=n
        · obtain ⟨r,r1,r2⟩:=ih (m+1) (by omega) (by omega) (fun j g1 g2 hj=>by
            rcases Nat.lt_or_ge j m with g | g
            · exact hi j g1 g2 g
            · have:j=m:=by omega
              subst this;exact ⟨q1,q2⟩)
          refine ⟨r,Ev.step (fun k=>rfl) ?_,r2⟩;simp only [dN.l0,dN.l0T,decide_eq_true_eq,c1,c2,c3,if_true,hw,abZ a m h1,abZ b m h2,w1,w2];exact Ev.yes q1 (Ev.no (by simp [q2]) r1)
        · refine ⟨false,Ev.step (fun k=>rfl) ?_,fun z=>(by cases z),fun z=>absurd (((o9 n).1 z).2 m h1 h2).2 q2⟩
          simp only [dN.l0,dN.l0T,decide_eq_true_eq,c1,c2,c3,if_true,hw,abZ a m h1,abZ b m h2,w1,w2];exact Ev.yes q1 (Ev.yes (by simp [q2]) (Ev.now _))
      · refine ⟨false,Ev.step (fun k=>rfl) ?_,fun z=>(by cases z),fun z=>absurd (((o9 n).1 z).2 m h1 h2).1 q1⟩
        simp only [dN.l0,dN.l0T,decide_eq_true_eq,c1,c2,c3,if_true,hw,abZ a m h1,abZ b m h2,w1,w2];exact Ev.no q1 (Ev.now _)
  obtain ⟨r,r1,r2⟩:=key a.length 0 (by omega) (by omega) (fun j _ _ h=>by omega);exact ⟨r,Ev.no (by simp [e]) r1,r2⟩
theorem zN (h:SF p c core odd):∃ b,Ev (fun k=>dZ.f k p c core odd) b∧(b=true↔∀ l∈core,l=[]):=by
  have hl0:=h.hl;unfold dZ.f;have key:∀ (rest pre:List (List Sp)),core=pre++rest→(∀ l∈pre,l=[])→∃ b,Ev (fun k=>dZ.l0 (fun y=>some (!decide (y≥0))) (some true) core (core.length:Int) k (pre.length:Int)) b∧(b=true↔∀ l∈core,l=[]):=by
    intro rest;induction rest with
    | nil =>
      intro pre hp he;refine ⟨true,Ev.step (f:=fun _=>some true) (fun k => ?_) (Ev.now _),?_⟩
      · have c1:¬ (pre.length:Int)<(core.length:Int):=by rw [hp];simp
        simp only [dZ.l0,dZ.l0T,decide_eq_true_eq,c1,if_false]
      · simp only [List.append_nil] at hp
        subst hp;exact ⟨fun _=>he,fun _=>rfl⟩
    | cons l r ih =>
      intro pre hp he;have hlen:pre.length+1≤core.length:=by rw [hp];simp
      have hrd:gL core (pre.length:Int)=l:=by rw [hp];simp [gL]
      have c1:(pre.length:Int)<(core.length:Int):=by omega
      have c2:(0:Int)≤(pre.length:Int):=by omega
      have hw:=nx c1 c2 (by omega);by_cases hz:l=[]
      · obtain ⟨x,x1,x2⟩:=ih (pre++[l]) (by rw [hp];simp) (fun y hy=>by rcases List.mem_append.1 hy with hy | hy;exact he y hy;simp at hy;rw [hy];exact hz)
        refine ⟨x,Ev.step (fun k=>rfl) ?_,x2⟩;simp only [dZ.l0,dZ.l0T,decide_eq_true_eq,c1,c2,if_true,hrd,hw,gH.f,hz,Option.bind_some];rw [len1 _ l];exact x1
      · refine ⟨false,Ev.step (f:=fun _=>some false) (fun k => ?_) (Ev.now _),?_⟩
        · have:((l.length:Int)>0):=by have:=List.length_pos_iff.2 hz;omega
          simp only [dZ.l0,dZ.l0T,decide_eq_true_eq,c1,c2,if_true,hrd,gH.f,this,Option.bind_some];simp
        · constructor
          · intro e;cases e
          · intro e;exact absurd (e l (by rw [hp];simp)) hz
  exact key core [] rfl (by simp)
theorem abx (h:SF p c core odd) (d:Nat) (hd0:1≤d) (hd:d≤core.length) (n:Int) (hn : -1099511627776≤n∧n≤1099511627776):∃ b,Ev (fun k=>dU.f k p c core odd (d:Int) n) b∧(b=true↔wP p core d n):=by
  have hl0:=h.hl;have hc0:=h.hc;have hp0:=h.hp0;have hp1:=h.hp1;unfold dU.f;have key:∀ (e i:Nat),core.length - i=e→i≤core.length→(∀ j (hj:j<core.length),j<i→(∀ h:j+d<core.length,core[j+d]=core[j].map (eO n))∧(¬ j+d<core.length→∀ h:j+d - core.length<core.length,core[j+d - core.length]=core[j].map (eO (n - p))))→∃ b,Ev (fun k=>dU.l0 (some false) (some true) (d:Int) n core (core.length:Int) p c core k (i:Int)) b∧(b=true↔wP p core d n):=by
    intro e;induction e with
    | zero =>
      intro i he hi hh;refine ⟨true,Ev.step (fun k=>rfl) ?_,fun _ j hj=>hh j hj (by omega),fun _=>rfl⟩;have c1:¬ (i:Int)<(core.length:Int):=by omega
      simp only [dU.l0,dU.l0T,decide_eq_true_eq,c1,if_false];exact Ev.now _
    | succ e ih =>
      intro i he hi hh;have h1:i<core.length:=by omega
      have c1:(i:Int)<(core.length:Int):=by omega
      have c2:(0:Int)≤(i:Int):=by omega
      have hw:wq ((i:Int)+1)=((i+1:Nat):Int):=by rw [iJ (by omega) (by omega)];simp
      have w1:wq ((i:Int)+(d:Int))=((i+d:Nat):Int):=by rw [iJ (by omega) (by omega)];simp
      have S1:=h.hcore _ (List.getElem_mem h1);by_cases g:i+d<core.length
      · have g1:¬ ((i+d:Nat):Int)≥c:=by omega
        have g2:(0:Int)≤((i+d:Nat):Int):=by omega
        have g3:((i+d:Nat):Int)<(core.length:Int):=by omega
        have w2:wq (n - 0)=n:=by rw [iJ (by omega) (by omega)];omega
        obtain ⟨b,b1,b2⟩:=rJ S1 (h.hcore _ (List.getElem_mem g)) n;cases b with
        | true =>
          obtain ⟨r,r1,r2⟩:=ih (i+1) (by omega) (by omega) (fun j hj hji=>by
            rcases Nat.lt_or_ge j i with q | q
            · exact hh j hj q
            · have:j=i:=by omega
              subst this;exact ⟨fun _=>b2.1 rfl,fun q=>absurd g q⟩)
          refine ⟨r,Ev.step (fun k=>rfl) ?_,r2⟩;simp only [dU.l0,dU.l0T,decide_eq_true_eq,c1,c2,if_true,hw,w1,w2,g1,g2,g3,if_false,rdL core i h1,rdL core (i+d) g];exact Ev.bind b1 (Ev.no (by simp) r1)
        | false =>
          refine ⟨false,Ev.step (fun k=>rfl) ?_,fun z=>(by cases z),fun z=>(by have:=b2.2 ((z i h1).1 g);cases this)⟩;simp only [dU.l0,dU.l0T,decide_eq_true_eq,c1,c2,if_true,hw,w1,w2,g1,g2,g3,if_false,rdL core i h1,rdL core (i+d) g];exact Ev.bind b1 (Ev.yes rfl (Ev.now _))
      · have g1:((i+d:Nat):Int)≥c:=by omega
        have gk:i+d - core.length<core.length:=by omega
        have w3:wq (((i+d:Nat):Int) - c)=((i+d - core.length:Nat):Int):=by rw [iJ (by omega) (by omega)];omega
        have g2:(0:Int)≤((i+d - core.length:Nat):Int):=by omega
        have g3:((i+d - core.length:Nat):Int)<(core.length:Int):=by omega
        have w2:wq (n - p)=n - p:=iJ (by omega) (by omega);obtain ⟨b,b1,b2⟩:=rJ S1 (h.hcore _ (List.getElem_mem gk)) (n - p);cases b with
        | true =>
          obtain ⟨r,r1,r2⟩:=ih (i+1) (by omega) (by omega) (fun j hj hji=>by
            rcases Nat.lt_or_ge j i with q | q
            · exact hh j hj q
            · have:j=i:=by omega
              subst this;exact ⟨fun q=>absurd q g,fun _ _=>b2.1 rfl⟩)
          refine ⟨r,Ev.step (fun k=>rfl) ?_,r2⟩;simp only [dU.l0,dU.l0T,decide_eq_true_eq,c1,c2,if_true,hw,w1,w2,w3,g1,g2,g3,rdL core i h1,rdL core (i+d - core.length) gk];exact Ev.bind b1 (Ev.no (by simp) r1)
        | false =>
          refine ⟨false,Ev.step (fun k=>rfl) ?_,fun z=>(by cases z),fun z=>(by have:=b2.2 ((z i h1).2 g gk);cases this)⟩;simp only [dU.l0,dU.l0T,decide_eq_true_eq,c1,c2,if_true,hw,w1,w2,w3,g1,g2,g3,rdL core i h1,rdL core (i+d - core.length) gk];exact Ev.bind b1 (Ev.yes rfl (Ev.now _))
  exact key core.length 0 (by omega) (by omega) (fun j _ h=>by omega)
end Go.Proofs.YtcomnjodjijcmaaGreat.Q
namespace Go.Proofs.YtcomnjodjijcmaaGreat.Q
set_option linter.unusedVariables false
set_option linter.unusedSimpArgs false
open Go.RowKit Go.Proofs.YtcomnjodjijcmaaGreatW.dz Go.Proofs.YtcomnjodjijcmaaGreatW.eD M R P
section
variable {p c:Int} {core:List (List Sp)} {odd:List Gn}
structure Rep (p:Int) (core:List (List Sp)) (d:Nat):Prop where
  d0:1≤d
  d1:d ∣ core.length
  d2:(((core.length / d:Nat):Int)) ∣ p
  tn:wP p core d (p / ((core.length / d:Nat):Int))
structure ac3 (p:Int) (core:List (List Sp)) (r:P.S25):Prop where
  e:(∀ l∈core,l=[])→r=⟨0,0,[],[]⟩
  n:¬ (∀ l∈core,l=[])→∃ d:Nat,Rep p core d∧(∀ d',d'<d→¬ Rep p core d')∧r=⟨p / ((core.length / d:Nat):Int),(d:Int),core.take d,[]⟩
theorem aby (h0:0<core.length):Rep p core core.length:=by
  refine ⟨h0,Nat.dvd_refl _,?_,fun i hi=>⟨fun h=>by omega,fun _ h => ?_⟩⟩
  · rw [Nat.div_self h0];exact ⟨p,by simp⟩
  · have e:p / ((core.length / core.length:Nat):Int) - p=0:=by rw [Nat.div_self h0];simp
    have e2:i+core.length - core.length=i:=by omega
    rw [e];have e3:core[i].map (eO 0)=core[i]:=(List.map_congr_left (fun s _=>show eO 0 s=id s by simp [eO])).trans (List.map_id _);rw [e3];congr 1
theorem ac3.sf (h:SF p c core odd) {r:P.S25} (s:ac3 p core r):SF r.f0 r.f1 r.f2 []∧r.f3=[]:=by
  by_cases hb:∀ l∈core,l=[]
  · rw [s.e hb]
    exact ⟨⟨rfl,by simp,by simp,by simp,by simp,by simp,by simp,List.Pairwise.nil,by simp,by simp⟩,rfl⟩
  · obtain ⟨d,q,_,rfl⟩:=s.n hb
    have hlen:0<core.length:=by
      cases core with
      | nil=>exact absurd (fun l hl=>by cases hl) hb
      | cons a t=>simp
    have hdl:d≤core.length:=Nat.le_of_dvd hlen q.d1;have hq:1≤core.length / d:=Nat.div_pos hdl q.d0;have hp0:=h.hp0;have hp1:=h.hp1;have hc:=h.hc;have hpz:p≠0:=fun e=>by have:=h.hz.2 e;omega
    obtain ⟨y,hy⟩:=q.d2;have hpos:0<((core.length / d:Nat):Int):=by omega
    have hdiv:p / ((core.length / d:Nat):Int)=y:=by rw [hy];exact Int.mul_ediv_cancel_left _ (by omega)
    have hy0:0<y:=by
      rcases Int.lt_or_le 0 y with g | g
      · exact g
      · have:((core.length / d:Nat):Int)*y≤0:=Int.mul_nonpos_of_nonneg_of_nonpos (by omega) g
        omega
    have hyp:y≤p:=by
      have:1*y≤((core.length / d:Nat):Int)*y:=Int.mul_le_mul_of_nonneg_right (by omega) (by omega);omega
    rw [hdiv];show SF y (d:Int) (core.take d) []∧_;have hd0:=q.d0;refine ⟨⟨?_,by omega,by omega,?_,?_,by simp,by simp,List.Pairwise.nil,?_,by simp⟩,rfl⟩
    · simp only [List.length_take];omega
    · constructor <;> intro g <;> omega
    · exact fun l hl=>h.hcore l (List.mem_of_mem_take hl)
    · simp only [List.length_take];have:=h.hl;omega
end
variable [Inhabited WT]
variable {p c:Int} {core:List (List Sp)} {odd:List Gn}
abbrev CX (γ:Type):=Int→Int→(List (List Sp))→(List Gn)→Int→Option γ
abbrev CZ (γ:Type):=Int→Int→(List (List Sp))→(List Gn)→Int→Int→(List (List Sp))→Int→Option γ
abbrev CY (γ:Type):=Int→Int→Int→(List (List Sp))→(List Gn)→Int→CX γ→CZ γ→Option γ
theorem abz (h:SF p c core odd) {β:Type} (d:Nat) (hd:d≤core.length):∀ (e i:Nat),(core.take d).length - i=e→i≤(core.take d).length→∀ (Y:Nat→List (List Sp)→Option β) (v:β),Ev (fun k=>Y k (core.take d)) v→Ev (fun k=>dF.l1 (Y k) (core.take d) ((core.take d).length:Int) k (i:Int) ((core.take d).take i)) v:=by
  have hl:=h.hl;have hll:(core.take d).length≤6000:=by simp only [List.length_take];omega
  intro e;induction e with
  | zero =>
    intro i he hi Y v hY;have e3:(core.take d).take i=core.take d:=List.take_of_length_le (by omega);rw [e3];have c1:¬ (i:Int)<((core.take d).length:Int):=by omega
    refine Ev.step (fun k=>rfl) ?_;simp only [dF.l1,dF.l1T,decide_eq_true_eq,c1,if_false];exact Ev.shift hY
  | succ e ih =>
    intro i he hi Y v hY;have hlt:i<(core.take d).length:=by omega
    have hb:=SL.len (lo:=0) (h.hcore _ (List.mem_of_mem_take (List.getElem_mem hlt)));have ha:∀ k,d9.f k (core.take d)[i]=some (core.take d)[i]:=fun k=>abv k _ (by omega);have htk:(core.take d).take i++[(core.take d)[i]]=(core.take d).take (i+1):=(List.take_succ_eq_append_getElem hlt).symm;have hl2:((core.take d).take i).length+1≤5864062014805:=by rw [List.length_take];omega
    have c1:(i:Int)<((core.take d).length:Int):=by omega
    have c2:(0:Int)≤(i:Int):=by omega
    have hrd:=rdL (core.take d) i hlt;have hw:wq ((i:Int)+1)=((i+1:Nat):Int):=by rw [iJ (by omega) (by omega)];simp
    have hi2:=ih (i+1) (by omega) (by omega) (fun k=>Y (k+1)) v (Ev.shift hY);rw [← htk] at hi2;refine Ev.step (fun k=>rfl) ?_;simp only [dF.l1,dF.l1T,decide_eq_true_eq,c1,c2,if_true,hrd,hw,ha,Option.bind_some,hl2];exact hi2
theorem ac4 {γ:Type} {v:γ} (hc:c=core.length) (hl:core.length≤6000) (X0:CZ γ) (X1:CX γ) (h0:0<core.length) (good:Nat→Prop) (dec:∀ d,good d∨¬ good d) {best:Nat} (ab:good best) (hle:best≤core.length) (hdv:best ∣ core.length) (hmin:∀ d,d<best→¬ good d) :
    ∀ (e d:Nat),best - d=e→1≤d→d≤best→∀ (Y:Nat→CY γ),(ac:∀ x0:Nat→CX γ,Ev (fun k=>Y k (best:Int) p c core odd c (x0 k) X0) v)→(∀ d:Nat,1≤d→d<best→d ∣ core.length→∀ x0:Nat→CX γ,Ev (fun k=>x0 k p c core odd c) v→Ev (fun k=>Y k (d:Int) p c core odd c (x0 k) X0) v) →
      Ev (fun k=>dF.l0 (Y k) X0 X1 k (d:Int) p c core odd c) v:=by
  intro e;induction e with
  | zero =>
    intro d he hd0 hd Y hy hn;have:d=best:=by omega
    subst this;have c1:(d:Int)≤c:=by omega
    have c2:¬ (d:Int)=0:=by omega
    have c3:Int.tmod c (d:Int)=0:=by rw [hc];exact Int.tmod_eq_zero_of_dvd (Int.natCast_dvd_natCast.2 hdv)
    refine Ev.step (fun k=>rfl) ?_;simp only [dF.l0,dF.l0T,decide_eq_true_eq,c1,c2,c3,if_true,if_false];exact Ev.shift (hy (fun k z46 z47 z48 z49 z50=>dF.l0 (Y k) X0 X1 (k - 1) (wq ((d:Int)+1)) z46 z47 z48 z49 z50))
  | succ e ih =>
    intro d he hd0 hd Y hy hn;have hlt:d<best:=by omega
    have c1:(d:Int)≤c:=by omega
    have c2:¬ (d:Int)=0:=by omega
    have hw:wq ((d:Int)+1)=((d+1:Nat):Int):=by rw [iJ (by omega) (by omega)];simp
    have nxt:=ih (d+1) (by omega) (by omega) (by omega) (fun k=>Y (k+1)) (fun x0=>Ev.shift (g:=fun k=>Y k (best:Int) p c core odd c (x0 (k - 1)) X0) (hy (fun k=>x0 (k - 1)))) (fun d' a1 a2 a3 x0 hx=>Ev.shift (g:=fun k=>Y k (d':Int) p c core odd c (x0 (k - 1)) X0) (hn d' a1 a2 a3 (fun k=>x0 (k - 1)) (Ev.step (fun k=>rfl) hx)));by_cases c3:Int.tmod c (d:Int)=0
    · have aa:d ∣ core.length:=by
        rw [hc] at c3;exact Int.natCast_dvd_natCast.1 (Int.dvd_of_tmod_eq_zero c3)
      refine Ev.step (fun k=>rfl) ?_;simp only [dF.l0,dF.l0T,decide_eq_true_eq,c1,c2,c3,if_true,if_false,hw];exact Ev.shift (g:=fun k=>Y k (d:Int) p c core odd c (fun z46 z47 z48 z49 z50=>dF.l0 (Y k) X0 X1 (k - 1) ((d+1:Nat):Int) z46 z47 z48 z49 z50) X0) (hn d hd0 hlt aa (fun k z46 z47 z48 z49 z50=>dF.l0 (Y k) X0 X1 (k - 1) ((d+1:Nat):Int) z46 z47 z48 z49 z50) (Ev.step (fun k=>rfl) nxt))
    · refine Ev.step (fun k=>rfl) ?_
      simp only [dF.l0,dF.l0T,decide_eq_true_eq,c1,c2,c3,if_true,if_false,hw];exact nxt
end Go.Proofs.YtcomnjodjijcmaaGreat.Q
namespace Go.Proofs.YtcomnjodjijcmaaGreat.Q
set_option linter.unusedVariables false
set_option linter.unusedSimpArgs false
open Go.RowKit Go.Proofs.YtcomnjodjijcmaaGreatW.dz Go.Proofs.YtcomnjodjijcmaaGreatW.eD M R P
section
variable {p c:Int} {core:List (List Sp)} {odd:List Gn}
theorem ahL {x:Int} (h:x=0):¬ (!(decide (x=0)))=true:=by simp [h]
theorem ahW {x:Int} (h:¬ x=0):(!(decide (x=0)))=true:=by simp [h]
theorem least {P:Nat→Prop}:∀ (n:Nat),P n→∃ m,P m∧∀ j,j<m→¬ P j:=by
  intro n;induction n using Nat.strongRecOn with
  | ind n ih =>
    intro h;by_cases e:∃ j,j<n∧P j
    · obtain ⟨j,j1,j2⟩:=e
      exact ih j j1 j2
    · exact ⟨n,h,fun j j1 j2=>e ⟨j,j1,j2⟩⟩
noncomputable def jv (p c:Int) (core:List (List Sp)) (g:Gn):Bool:=@decide (jm p c core [] g.f0=(g.f1,0)) (Classical.propDecidable _)
theorem l7 {g:Gn}:jv p c core g=true↔jm p c core [] g.f0=(g.f1,0):=by
  unfold jv;exact @decide_eq_true_iff _ (Classical.propDecidable _)
end
variable [Inhabited WT]
variable {p c:Int} {core:List (List Sp)} {odd:List Gn}
theorem aeG (h:SF p c core odd):∃ r,Ev (fun k=>dF.f k p c core odd) r∧ac3 p core r:=by
  have hc:=h.hc;have hl:=h.hl;have hp0:=h.hp0;have hp1:=h.hp1;unfold dF.f;obtain ⟨b,b1,b2⟩:=zN h;cases b with
  | true=>exact ⟨⟨0,0,[],[]⟩,Ev.bind b1 (Ev.yes rfl (Ev.now _)),fun _=>rfl,fun q=>absurd (b2.1 rfl) q⟩
  | false =>
    have nb:¬ ∀ l∈core,l=[]:=fun q=>by have:=b2.2 q;cases this
    have h0:0<core.length:=by
      cases core with
      | nil=>exact absurd (fun l hl=>by cases hl) nb
      | cons a t=>simp
    obtain ⟨best,hb,hmin⟩:=least (P:=Rep p core) core.length (aby h0);have ah:best≤core.length:=Nat.le_of_dvd h0 hb.d1;have quo:∀ d:Nat,1≤d→d ∣ core.length→wq (Int.tdiv c (d:Int))=((core.length / d:Nat):Int)∧1≤core.length / d∧core.length / d≤6000:=fun d h1 h2=>by
      have e1:Int.tdiv c (d:Int)=((core.length / d:Nat):Int):=by rw [hc,Int.tdiv_eq_ediv_of_nonneg (by omega)];simp
      have e2:1≤core.length / d:=Nat.div_pos (Nat.le_of_dvd h0 h2) h1;have e3:core.length / d≤core.length:=Nat.div_le_self _ _;exact ⟨by rw [e1];exact iJ (by omega) (by omega),e2,by omega⟩
    have pq:∀ m:Nat,1≤m → -1099511627776≤p / (m:Int)∧p / (m:Int)≤1099511627776:=fun m hm=>by
      have e1:0≤p / (m:Int):=Int.ediv_nonneg hp0 (by omega);have e2:p / (m:Int)≤p:=Int.ediv_le_self _ hp0;omega
    refine ⟨⟨p / ((core.length / best:Nat):Int),(best:Int),core.take best,[]⟩,?_,fun q=>absurd q nb,fun _=>⟨best,hb,hmin,rfl⟩⟩;refine Ev.bind b1 (Ev.no (by simp) ?_);refine ac4 hc hl _ _ h0 (Rep p core) (fun d=>Classical.em _) hb ah hb.d1 hmin (best - 1) 1 rfl (by omega) hb.d0 (fun k aa ac af ab ai aj x0 x1=>(if aa=0 then none else ((fJ.f k ac (wq (Int.tdiv af aa))).bind fun t78=>(if (!(decide (t78.2.1=0)))=true then (x0 ac af ab ai aj) else ((dU.f k ac af ab ai aa t78.1).bind fun t79=>(if (!t79)=true then (x0 ac af ab ai aj) else (if 0≤aa then (if aa≤(ab.length:Int) then (dF.l1 (fun ak=>(x1 ac af ab ai t78.1 aa ak aj)) (ab.take (Int.toNat aa)) ((ab.take (Int.toNat aa)).length:Int) k 0 []) else none) else none))))))) (fun x0 => ?_) (fun d d1 d2 d3 x0 hx => ?_)
    · obtain ⟨w,m1,m2⟩:=quo best hb.d0 hb.d1
      have nz:¬ (best:Int)=0:=by have:=hb.d0;omega
      refine Ev.no nz ?_;rw [w];refine Ev.bind (o8 p _ (by omega) (by omega)) ?_;have rest:p % ((core.length / best:Nat):Int)=0:=Int.emod_eq_zero_of_dvd hb.d2;obtain ⟨t,t1,t2⟩:=abx h best hb.d0 ah _ (pq _ m1);obtain rfl:=t2.2 hb.tn;have c2:(0:Int)≤(best:Int):=by omega
      have c3:(best:Int)≤(core.length:Int):=by omega
      refine Ev.no (ahL rest) (Ev.bind t1 (Ev.no (by simp) (Ev.yes c2 (Ev.yes c3 ?_))));have:=abz h best ah (core.take best).length 0 (by omega) (by omega) (fun k y=>some (⟨p / ((core.length / best:Nat):Int),(best:Int),y,[]⟩:P.S25)) _ (Ev.now _);exact this
    · obtain ⟨w,m1,m2⟩:=quo d d1 d3
      have nz:¬ (d:Int)=0:=by omega
      refine Ev.no nz ?_;rw [w];refine Ev.bind (o8 p _ (by omega) (by omega)) ?_;by_cases rest:p % ((core.length / d:Nat):Int)=0
      · obtain ⟨t,t1,t2⟩:=abx h d d1 (by omega) _ (pq _ m1)
        refine Ev.no (ahL rest) (Ev.bind t1 ?_);cases t with
        | true=>exact absurd ⟨d1,d3,Int.dvd_of_emod_eq_zero rest,t2.1 rfl⟩ (hmin d d2)
        | false=>exact Ev.yes rfl hx
      · exact Ev.yes (ahW rest) hx
theorem ac5 (h:SF p c core []) (g:Gn):Ev (fun k=>iA.f k p c core [] g.f0 g.f1) (jv p c core g):=by
  unfold iA.f;have hg:=jL h g.f0;refine Ev.bind (jK h g.f0) ?_;by_cases e:(jm p c core [] g.f0).2=0
  · obtain ⟨r,r1,r2⟩:=abw (jm p c core [] g.f0).1 g.f1 hg
    have:jv p c core g=r:=by
      rw [Bool.eq_iff_iff,l7,r2];constructor
      · intro q;rw [q]
      · intro q;exact Prod.ext q e
    rw [this];exact Ev.yes (by simpa using e) (Ev.bind (f:=fun _ a=>some a) r1 (Ev.now _))
  · have:jv p c core g=false:=by
      rw [← Bool.not_eq_true,l7];intro q;rw [q] at e;exact e rfl
    rw [this];exact Ev.no (by simpa using e) (Ev.now _)
structure vM (p:Int) (core:List (List Sp)) (odd:List Gn) (r:P.S25):Prop where
  c:ac3 p core ⟨r.f0,r.f1,r.f2,[]⟩
  o:r.f3=odd.filter fun g => !jv r.f0 r.f1 r.f2 g
theorem j5 (h:SF p c core odd):∃ r,Ev (fun k=>dK.f k p c core odd) r∧vM p core odd r:=by
  have hlo:=h.hlo;unfold dK.f;obtain ⟨r,r1,r2⟩:=aeG h;obtain ⟨s,s3⟩:=r2.sf h;refine ⟨⟨r.f0,r.f1,r.f2,odd.filter fun g => !jv r.f0 r.f1 r.f2 g⟩,Ev.bind r1 ?_,?_,rfl⟩
  · rw [s3]
    have key:∀ (rest pre:List Gn),odd=pre++rest→Ev (fun k=>dK.l0 (fun y8=>some (⟨r.f0,r.f1,r.f2,y8⟩:P.S25)) odd (odd.length:Int) r.f0 r.f1 r.f2 [] k (pre.filter fun g => !jv r.f0 r.f1 r.f2 g) (pre.length:Int)) (⟨r.f0,r.f1,r.f2,odd.filter fun g => !jv r.f0 r.f1 r.f2 g⟩:P.S25):=by
      intro rest;induction rest with
      | nil =>
        intro pre hp;have e:odd=pre:=by rw [hp];simp
        have c1:¬ (pre.length:Int)<(odd.length:Int):=by rw [e];omega
        refine Ev.step (fun k=>rfl) ?_;simp only [dK.l0,dK.l0T,decide_eq_true_eq,c1,if_false];rw [e];exact Ev.now _
      | cons g t ih =>
        intro pre hp;have hlen:pre.length+1≤odd.length:=by rw [hp];simp
        have hrd:gG odd (pre.length:Int)=g:=by simp [hp,gG]
        have c1:(pre.length:Int)<(odd.length:Int):=by omega
        have c2:(0:Int)≤(pre.length:Int):=by omega
        have hw:=nx c1 c2 (by omega);have hg:=SL.len (lo:=0) (h.hodd g (by rw [hp];simp));have ha:∀ k,d9.f k g.f1=some g.f1:=fun k=>abv k _ (by omega);have hf:(pre.filter fun g => !jv r.f0 r.f1 r.f2 g).length≤pre.length:=List.length_filter_le _ _;have c3:(pre.filter fun g => !jv r.f0 r.f1 r.f2 g).length+1≤4398046511104:=by omega
        have hi:=ih (pre++[g]) (by rw [hp];simp);rw [← len1,List.filter_append] at hi;refine Ev.step (fun k=>rfl) ?_;simp only [dK.l0,dK.l0T,decide_eq_true_eq,c1,c2,if_true,hrd,hw,ha,Option.bind_some,c3];have pl:=ac5 s g;refine Ev.bind pl ?_;cases q:jv r.f0 r.f1 r.f2 g with
        | false =>
          have e2:([g].filter fun g => !jv r.f0 r.f1 r.f2 g)=[g]:=by simp [q]
          rw [e2] at hi;exact Ev.yes rfl hi
        | true =>
          have e2:([g].filter fun g => !jv r.f0 r.f1 r.f2 g)=[]:=by simp [q]
          rw [e2,List.append_nil] at hi;exact Ev.no (by simp) hi
    exact key odd [] rfl
  · have e:(⟨r.f0,r.f1,r.f2,[]⟩:P.S25)=r:=by
      cases r with
      | mk a b cc d=>simp only at s3;rw [s3]
    show ac3 p core ⟨r.f0,r.f1,r.f2,[]⟩;rw [e];exact r2
end Go.Proofs.YtcomnjodjijcmaaGreat.Q
namespace Go.Proofs.YtcomnjodjijcmaaGreat.Q
set_option linter.unusedVariables false
set_option linter.unusedSimpArgs false
open Go.RowKit Go.Proofs.YtcomnjodjijcmaaGreatW.dz Go.Proofs.YtcomnjodjijcmaaGreatW.eD M R P
section
variable {p c:Int} {core:List (List Sp)} {odd:List Gn}
theorem iX (a b:Int) (l:List Sp):(l.map (eO a)).map (eO b)=l.map (eO (a+b)):=by
  rw [List.map_map];refine List.map_congr_left (fun s _ => ?_);simp only [Function.comp,eO,Int.add_assoc]
theorem iU (l:List Sp):l.map (eO 0)=l:=(List.map_congr_left (fun s _=>show eO 0 s=id s by simp [eO])).trans (List.map_id l)
def bT (p c:Int) (core:List (List Sp)) (i:Int):List Sp:=(fO c core i).map (eO (i / c*p))
theorem nN (i:Int):gT p c core [] i=bT p c core i:=by simp [gT,bT,fs,fb,iW]
theorem mF (h:SF p c core odd) (q:Int) (j:Nat) (hj:j<core.length):bT p c core (q*c+j)=core[j].map (eO (q*p)):=by
  obtain ⟨e1,e2⟩:=abg h q j hj;unfold bT;rw [e1,e2]
theorem tK (h:SF p c core odd) {d:Nat} {n:Int} (hd0:1≤d) (hd:d≤core.length) (t:wP p core d n) (i:Int):bT p c core (i+d)=(bT p c core i).map (eO n):=by
  have hc:=h.hc;have c0:0<c:=by omega
  have h1:=Int.emod_nonneg i (show c≠0 by omega);have h2:=Int.emod_lt_of_pos i c0;have h3:=Int.mul_ediv_add_emod i c;rw [Int.mul_comm] at h3;obtain ⟨r,hr⟩:∃ r:Nat,(r:Int)=i % c:=⟨(i % c).toNat,by omega⟩;have hrl:r<core.length:=by omega
  have e0:i=i / c*c+(r:Int):=by omega
  have eb:bT p c core i=core[r].map (eO (i / c*p)):=by
    conv=>lhs;rw [e0]
    exact mF h _ r hrl
  rw [eb,iX];by_cases g:r+d<core.length
  · have e1:i+d=i / c*c+((r+d:Nat):Int):=by omega
    rw [e1,mF h _ (r+d) g,(t r hrl).1 g,iX,Int.add_comm]
  · have g2:r+d - core.length<core.length:=by omega
    have e2:(i / c+1)*c=i / c*c+c:=by rw [Int.add_mul,Int.one_mul]
    have e1:i+d=(i / c+1)*c+((r+d - core.length:Nat):Int):=by omega
    rw [e1,mF h _ _ g2,(t r hrl).2 g g2,iX];congr 2;rw [Int.add_mul,Int.one_mul];omega
theorem yE (h:SF p c core odd) {d:Nat} {n:Int} (hd0:1≤d) (hd:d≤core.length) (t:wP p core d n) (i:Int):∀ q:Nat,bT p c core (i+q*d)=(bT p c core i).map (eO (q*n)):=by
  intro q;induction q with
  | zero=>simp [iU]
  | succ q ih =>
    have e:i+((q+1:Nat):Int)*d=(i+q*d)+d:=by rw [Int.natCast_add,Int.add_mul];simp;omega
    rw [e,tK h hd0 hd t,ih,iX];congr 2;rw [Int.natCast_add,Int.add_mul];simp
theorem afK (h:SF p c core odd) {d:Nat} {n:Int} (hd0:1≤d) (hd:d≤core.length) (t:wP p core d n) (i q:Int):bT p c core (i+q*d)=(bT p c core i).map (eO (q*n)):=by
  rcases Int.le_total 0 q with g | g
  · obtain ⟨k,rfl⟩:∃ k:Nat,q=(k:Int):=⟨q.toNat,by omega⟩
    exact yE h hd0 hd t i k
  · obtain ⟨k,rfl⟩:∃ k:Nat,q = -(k:Int):=⟨(-q).toNat,by omega⟩
    have:=yE h hd0 hd t (i + -(k:Int)*d) k;have e:i + -(k:Int)*d+(k:Int)*d=i:=by rw [Int.neg_mul];omega
    rw [e] at this;rw [this,iX];have e2:(k:Int)*n + -(k:Int)*n=0:=by rw [Int.neg_mul];omega
    rw [e2,iU]
theorem ac3.ticks (h:SF p c core odd) {r:P.S25} (s:ac3 p core r) (i:Int):gT r.f0 r.f1 r.f2 [] i=gT p c core [] i:=by
  rw [nN,nN];by_cases hb:∀ l∈core,l=[]
  · rw [s.e hb]
    have e1:fO c core i=[]:=by
      refine Classical.byContradiction fun hn => ?_;obtain ⟨_,_,j,hj,_,e⟩:=sZ h hn;rw [e] at hn;exact hn (hb _ (List.getElem_mem hj))
    unfold bT;rw [e1];simp [fO]
  · obtain ⟨s1,_⟩:=s.sf h
    obtain ⟨d,q,_,rfl⟩:=s.n hb;have hlen:0<core.length:=by
      cases core with
      | nil=>exact absurd (fun l hl=>by cases hl) hb
      | cons a t=>simp
    have hdl:d≤core.length:=Nat.le_of_dvd hlen q.d1;have hd0:=q.d0;have h1:=Int.emod_nonneg i (show (d:Int)≠0 by omega);have h2:=Int.emod_lt_of_pos i (show (0:Int)<d by omega);have h3:=Int.mul_ediv_add_emod i d;rw [Int.mul_comm] at h3;obtain ⟨j,hj⟩:∃ j:Nat,(j:Int)=i % d:=⟨(i % d).toNat,by omega⟩;have e0:i=(j:Int)+i / d*d:=by omega
    have e1:i=i / d*d+(j:Int):=by omega
    have jl:j<(core.take d).length:=by simp only [List.length_take];omega
    have lhs:=mF s1 (i / d) j jl;rw [← e1] at lhs;have rhs:=afK h hd0 hdl q.tn (j:Int) (i / d);rw [← e0] at rhs;have base:=mF h 0 j (by omega);rw [Int.zero_mul,Int.zero_add,Int.zero_mul,iU] at base;rw [lhs,rhs,base,List.getElem_take]
end
end Go.Proofs.YtcomnjodjijcmaaGreat.Q
namespace Go.Proofs.YtcomnjodjijcmaaGreat.Q
set_option linter.unusedVariables false
set_option linter.unusedSimpArgs false
open Go.RowKit Go.Proofs.YtcomnjodjijcmaaGreatW.dz Go.Proofs.YtcomnjodjijcmaaGreatW.eD M R P
section
variable {p c:Int} {core:List (List Sp)} {odd:List Gn}
def mvT (l:List Sp):List Sp × Int:=if l.all (okM 0) then (l,0) else ([],20)
theorem pz (n:Int) (l:List Sp):lU n l=mvT (l.map (eO n)):=by
  unfold lU mvT;have:(l.map (eO n)).all (okM 0)=l.all (okM n):=by
    rw [List.all_map];congr 1;funext s;simp [okM,eO]
  rw [this]
theorem lV (i:Int):jm p c core odd i=if inR i then (if gT p c core odd i=[] then ([],0) else mvT (gT p c core odd i)) else ([],20):=by
  unfold jm gT;by_cases hr:inR i
  · rw [if_pos hr,if_pos hr]
    by_cases hz:fs c core odd i=[]
    · rw [if_pos hz,if_pos (by rw [hz];rfl)]
    · rw [if_neg hz,if_neg (by simpa using hz),pz]
  · rw [if_neg hr,if_neg hr]
theorem kH {i:Int} (h:iW odd i=none):gT p c core odd i=gT p c core [] i:=by
  unfold gT fs fb;rw [h];simp [iW]
theorem mV {i:Int} {l:List Sp} (h:iW odd i=some l):gT p c core odd i=l:=by
  unfold gT fs fb;rw [h];exact iU l
theorem j6 {p' c':Int} {fu:List (List Sp)} {kr:List Gn} {i:Int} (h:gT p c core odd i=gT p' c' fu kr i):jm p c core odd i=jm p' c' fu kr i:=by
  rw [lV,lV,h]
theorem vM.aeI (h:SF p c core odd) {r:P.S25} (s:vM p core odd r) (i:Int):jm r.f0 r.f1 r.f2 r.f3 i=jm p c core odd i:=by
  have ho:=s.o;have hup:r.f3.Pairwise (fun a b=>a.f0<b.f0):=by rw [ho];exact h.hup.filter _
  have bare:gT r.f0 r.f1 r.f2 [] i=gT p c core [] i:=s.c.ticks h i;cases hi:iW odd i with
  | none =>
    have hn:iW r.f3 i=none:=iT.2 (fun g hg e=>by
      rw [ho] at hg;exact iT.1 hi g (List.mem_filter.1 hg).1 e)
    exact j6 (by rw [kH hn,kH hi,bare])
  | some l =>
    obtain ⟨g,g1,g2,g3⟩:=je hi;cases hp:jv r.f0 r.f1 r.f2 g with
    | false =>
      have hg:g∈r.f3:=by rw [ho];exact List.mem_filter.2 ⟨g1,by simp [hp]⟩
      have:=kR hup hg;rw [g2,g3] at this;exact j6 (by rw [mV this,mV hi])
    | true =>
      have hn:iW r.f3 i=none:=iT.2 (fun g' hg e=>by
        rw [ho] at hg;obtain ⟨m1,m2⟩:=List.mem_filter.1 hg;have e1:=kR h.hup m1;rw [e,hi] at e1;have e2:g'=g:=by
          cases g' with
          | mk a b =>
            cases g with
            | mk a' b' =>
              simp only at e g2 g3 e1;have:b=b':=by rw [g3];exact (Option.some.inj e1).symm
              rw [e,g2,this]
        rw [e2,hp] at m2;cases m2)
      have q:=l7.1 hp;rw [g2,g3] at q;have e1:jm r.f0 r.f1 r.f2 r.f3 i=(l,0):=by rw [j6 (kH hn)];exact q
      have hr:inR i:=by rw [← g2];exact h.hidx g g1
      have hS:SL (-1099511627776) 1099511627776 l:=by rw [← g3];exact h.hodd g g1
      have e2:jm p c core odd i=(l,0):=by
        rw [lV,if_pos hr,mV hi];by_cases z:l=[]
        · rw [if_pos z,z]
        · rw [if_neg z]
          have:=oz hS;rw [pz,iU] at this;exact this
      rw [e1,e2]
end
end Go.Proofs.YtcomnjodjijcmaaGreat.Q
namespace Go.Proofs.YtcomnjodjijcmaaGreat.Q
set_option linter.unusedVariables false
set_option linter.unusedSimpArgs false
open Go.RowKit Go.Proofs.YtcomnjodjijcmaaGreatW.dz Go.Proofs.YtcomnjodjijcmaaGreatW.eD M R P
section
variable {p c:Int} {core:List (List Sp)} {odd:List Gn}
theorem ac6 {l m:List Sp} (h:mvT l=(m,0)):l=m:=by
  unfold mvT at h;split at h
  · exact (Prod.mk.inj h).1
  · have:=(Prod.mk.inj h).2;cases this
theorem vM.ac7 (h:SF p c core odd) {r:P.S25} (s:vM p core odd r) (i:Int):gT r.f0 r.f1 r.f2 r.f3 i=gT p c core odd i:=by
  by_cases hr:inR i
  · have e:=s.aeI h i
    rw [lV,lV,if_pos hr,if_pos hr] at e;have ho:=s.o;have hup:r.f3.Pairwise (fun a b=>a.f0<b.f0):=by rw [ho];exact h.hup.filter _
    have bare:gT r.f0 r.f1 r.f2 [] i=gT p c core [] i:=s.c.ticks h i;cases hi:iW odd i with
    | none =>
      have hn:iW r.f3 i=none:=iT.2 (fun g hg e=>by
        rw [ho] at hg;exact iT.1 hi g (List.mem_filter.1 hg).1 e)
      rw [kH hn,kH hi,bare]
    | some l =>
      obtain ⟨g,g1,g2,g3⟩:=je hi;have hS:SL (-1099511627776) 1099511627776 l:=by rw [← g3];exact h.hodd g g1
      have e2:(if gT p c core odd i=[] then (([],0):List Sp × Int) else mvT (gT p c core odd i))=(l,0):=by
        rw [mV hi];by_cases z:l=[]
        · rw [if_pos z,z]
        · rw [if_neg z]
          have:=oz hS;rw [pz,iU] at this;exact this
      rw [e2] at e;rw [mV hi];by_cases z:gT r.f0 r.f1 r.f2 r.f3 i=[]
      · rw [if_pos z] at e
        rw [z];exact (Prod.mk.inj e).1
      · rw [if_neg z] at e
        exact ac6 e
  · have hno:∀ {o:List Gn},(∀ g∈o,g∈odd)→iW o i=none:=fun {o} ho=>iT.2 (fun g hg e=>hr (by rw [← e];exact h.hidx g (ho g hg)))
    rw [kH (hno (fun g hg=>by rw [s.o] at hg;exact (List.mem_filter.1 hg).1)),kH (hno (fun g hg=>hg))];exact s.c.ticks h i
theorem vM.sf (h:SF p c core odd) {r:P.S25} (s:vM p core odd r):SF r.f0 r.f1 r.f2 r.f3:=by
  obtain ⟨b,_⟩:=s.c.sf h;have hin:∀ g∈r.f3,g∈odd:=fun g hg=>by rw [s.o] at hg;exact (List.mem_filter.1 hg).1
  refine ⟨b.hc,b.hp0,b.hp1,b.hz,b.hcore,fun g hg=>h.hodd g (hin g hg),fun g hg=>h.hidx g (hin g hg),?_,b.hl,?_⟩
  · rw [s.o];exact h.hup.filter _
  · rw [s.o]
    have:=List.length_filter_le (fun g => !jv r.f0 r.f1 r.f2 g) odd;have:=h.hlo;omega
theorem lF {i:Int}:fs c core odd i≠[]↔gT p c core odd i≠[]:=by simp [gT]
theorem ac3.tf (h:SF p c core odd) (t:TF p core) {r:P.S25} (s:ac3 p core r):TF r.f0 r.f2:=by
  by_cases hb:∀ l∈core,l=[]
  · rw [s.e hb]
    exact ⟨List.Pairwise.nil,fun a ha=>by cases ha⟩
  · obtain ⟨s1,_⟩:=s.sf h
    obtain ⟨d,q,_,rfl⟩:=s.n hb;have hlen:0<core.length:=by
      cases core with
      | nil=>exact absurd (fun l hl=>by cases hl) hb
      | cons a t=>simp
    have hdl:d≤core.length:=Nat.le_of_dvd hlen q.d1;have hd0:=q.d0;refine ⟨List.Pairwise.sublist (List.take_sublist _ _) t.ta,fun a ha b hb' na nb => ?_⟩;obtain ⟨i,hi,rfl⟩:=List.getElem_of_mem ha;obtain ⟨j,hj,rfl⟩:=List.getElem_of_mem hb';simp only [List.length_take] at hi hj;simp only [List.getElem_take] at na nb ⊢;have hi2:i<core.length:=by omega
    have hj2:j<core.length:=by omega
    have Bi:=mF h 0 i hi2;have Bj:=mF h 0 j hj2;rw [Int.zero_mul,Int.zero_add,Int.zero_mul,iU] at Bi Bj;have aa:=tK h hd0 hdl q.tn (j:Int);rw [Bj] at aa;have ni:fs c core [] (i:Int)≠[]:=(lF (p:=p)).2 (by rw [nN,Bi];exact na);have nj:fs c core [] ((j:Int)+d)≠[]:=(lF (p:=p)).2 (by rw [nN,aa];simpa using nb);have o:=acY (odd:=odd) h t (show (i:Int)<(j:Int)+d by omega) ni nj;have gi:=(kD (p:=p) ni).2.2;have gj:=(kD (p:=p) nj).2.1;rw [nN,Bi] at gi;rw [nN,aa,om _ _ nb] at gj;omega
theorem vM.fok (h:FOK p c core odd) {r:P.S25} (s:vM p core odd r):FOK r.f0 r.f1 r.f2 r.f3:=by
  refine ⟨s.sf h.s,s.c.tf h.s h.t,fun i k hik ri rk ni nk => ?_⟩;have ei:=s.ac7 h.s i;have ek:=s.ac7 h.s k;have ni':fs c core odd i≠[]:=(lF (p:=p)).2 (by rw [← ei];exact (lF (p:=r.f0)).1 ni);have nk':fs c core odd k≠[]:=(lF (p:=p)).2 (by rw [← ek];exact (lF (p:=r.f0)).1 nk);have o:=h.ord i k hik ri rk ni' nk';have a1:=(kD (p:=p) ni').2.2;have a2:=(kD (p:=p) nk').2.1;have b1:=(kD (p:=r.f0) ni).2.2;have b2:=(kD (p:=r.f0) nk).2.1;rw [ei] at b1;rw [ek] at b2;omega
end
end Go.Proofs.YtcomnjodjijcmaaGreat.Q
namespace Go.Proofs.YtcomnjodjijcmaaGreat.Q
set_option linter.unusedVariables false
set_option linter.unusedSimpArgs false
open Go.RowKit Go.Proofs.YtcomnjodjijcmaaGreatW.dz Go.Proofs.YtcomnjodjijcmaaGreatW.eD M R P
section
variable {p c:Int} {core:List (List Sp)} {odd:List Gn}
def Stp (B:Int→List Sp) (a:Nat) (n:Int):Prop:=∀ i,B (i+a)=(B i).map (eO n)
theorem qC (n:Int) {l m:List Sp} (h:l.map (eO n)=m.map (eO n)):l=m:=by
  have:=congrArg (fun x=>x.map (eO (-n))) h;simpa only [zI] using this
theorem Stp.sub {B:Int→List Sp} {a b:Nat} {n m:Int} (h:a≤b) (s:Stp B a n) (t:Stp B b m):Stp B (b - a) (m - n):=fun i=>by
  have e1:=s (i+((b - a:Nat):Int));have e2:i+((b - a:Nat):Int)+(a:Int)=i+b:=by omega
  rw [e2,t i] at e1;refine qC n ?_;rw [← e1,iX];congr 2;omega
theorem afM {B:Int→List Sp}:∀ (s a b:Nat) (n m:Int),a+b≤s→1≤a→1≤b→Stp B a n→Stp B b m→∃ k,Stp B (Nat.gcd a b) k:=by
  intro s;induction s with
  | zero=>intro a b n m h ha hb _ _;omega
  | succ s ih =>
    intro a b n m h ha hb sa sb;rcases Nat.lt_trichotomy a b with g | g | g
    · obtain ⟨k,hk⟩:=ih a (b - a) n (m - n) (by omega) ha (by omega) sa (Stp.sub (by omega) sa sb)
      refine ⟨k,?_⟩;have:Nat.gcd a (b - a)=Nat.gcd a b:=by
        have e:b=(b - a)+a:=by omega
        conv=>rhs;rw [e]
        rw [Nat.gcd_add_self_right]
      rw [← this];exact hk
    · subst g
      exact ⟨n,by rw [Nat.gcd_self];exact sa⟩
    · obtain ⟨k,hk⟩:=ih (a - b) b (n - m) m (by omega) (by omega) hb (Stp.sub (by omega) sb sa) sb
      refine ⟨k,?_⟩;have:Nat.gcd (a - b) b=Nat.gcd a b:=by
        have e:a=(a - b)+b:=by omega
        conv=>rhs;rw [e]
        rw [Nat.gcd_add_self_left]
      rw [← this];exact hk
theorem kE (h:SF p c core odd) (h0:0<core.length):Stp (bT p c core) core.length p:=fun i=>by
  have:=tK h h0 (Nat.le_refl _) (aby (p:=p) h0).tn i;rw [Nat.div_self h0] at this;simpa using this
theorem aeJ (h:SF p c core odd) {d:Nat} {n:Int} (hd0:1≤d) (hd:d≤core.length) (s:Stp (bT p c core) d n):wP p core d n:=by
  intro i hi;have Bi:=mF h 0 i hi;rw [Int.zero_mul,Int.zero_add,Int.zero_mul,iU] at Bi;have st:=s (i:Int);rw [Bi] at st;refine ⟨fun g => ?_,fun g g2 => ?_⟩
  · have B2:=mF h 0 (i+d) g
    rw [Int.zero_mul,Int.zero_add,Int.zero_mul,iU] at B2;rw [← B2,← st];congr 1
  · have B2:=mF h 1 _ g2
    have hc:=h.hc;have e:(1:Int)*c+((i+d - core.length:Nat):Int)=(i:Int)+d:=by omega
    rw [e,st,Int.one_mul] at B2;refine qC p ?_;rw [← B2,iX];congr 2;omega
theorem tN {B:Int→List Sp} {a:Nat} {n:Int} (s:Stp B a n) (i:Int):∀ q:Nat,B (i+q*a)=(B i).map (eO (q*n)):=by
  intro q;induction q with
  | zero=>simp [iU]
  | succ q ih =>
    have e:i+((q+1:Nat):Int)*a=(i+q*a)+a:=by rw [Int.natCast_add,Int.add_mul];simp;omega
    rw [e,s,ih,iX];congr 2;rw [Int.natCast_add,Int.add_mul];simp
theorem qD {l:List Sp} (hl:l≠[]) {n m:Int} (h:l.map (eO n)=l.map (eO m)):n=m:=by
  cases l with
  | nil=>exact absurd rfl hl
  | cons s t =>
    have:=(List.cons.inj h).1;have:=congrArg (fun x:Sp=>x.f0) this;simp only [eO] at this;omega
theorem abB (h:SF p c core odd) (h0:0<core.length) {i0:Int} (hne:bT p c core i0≠[]) {d:Nat} {n:Int} (hd0:1≤d) (hdv:d ∣ core.length) (s:Stp (bT p c core) d n):Rep p core d:=by
  obtain ⟨m,hm⟩:=hdv;have e1:=tN s i0 m;have e2:=kE h h0 i0;have e3:i0+(m:Int)*d=i0+(core.length:Int):=by rw [hm,Int.natCast_mul,Int.mul_comm]
  rw [e3,e2] at e1;have e4:=qD hne e1;have e5:core.length / d=m:=by rw [hm];exact Nat.mul_div_cancel_left _ (by omega)
  have m0:(m:Int)≠0:=by
    intro e;have:m=0:=by omega
    rw [this] at hm;omega
  refine ⟨hd0,⟨m,hm⟩,by rw [e5];exact ⟨n,e4⟩,?_⟩;have e6:p / (((core.length / d:Nat):Int))=n:=by rw [e5,e4];exact Int.mul_ediv_cancel_left _ m0
  rw [e6];exact aeJ h hd0 (Nat.le_of_dvd h0 ⟨m,hm⟩) s
theorem ac8 {p' c':Int} {fu:List (List Sp)} {kr:List Gn} (h:SF p c core odd) (h':SF p' c' fu kr) (mn:∀ d,d<core.length→¬ Rep p core d) (aa:∀ d,d<fu.length→¬ Rep p' fu d) (h0:0<core.length) (h0':0<fu.length) {i0:Int} (hne:bT p c core i0≠[]) (heq:∀ i,bT p c core i=bT p' c' fu i):p=p'∧c=c'∧core=fu:=by
  have hB:bT p c core=bT p' c' fu:=funext heq;have s1:=kE h h0;have s2:=kE h' h0';rw [← hB] at s2;obtain ⟨k,hk⟩:=afM _ _ _ _ _ (Nat.le_refl _) h0 h0' s1 s2;have g0:1≤Nat.gcd core.length fu.length:=Nat.gcd_pos_of_pos_left _ h0;have r1:=abB h h0 hne g0 (Nat.gcd_dvd_left _ _) hk;have r2:=abB h' h0' (by rw [← heq];exact hne) g0 (Nat.gcd_dvd_right _ _) (by rw [← hB];exact hk);have l1:=Nat.le_of_dvd h0 (Nat.gcd_dvd_left core.length fu.length);have l2:=Nat.le_of_dvd h0' (Nat.gcd_dvd_right core.length fu.length);have e1:Nat.gcd core.length fu.length=core.length:=by
    rcases Nat.lt_or_eq_of_le l1 with g | g
    · exact absurd r1 (mn _ g)
    · exact g
  have e2:Nat.gcd core.length fu.length=fu.length:=by
    rcases Nat.lt_or_eq_of_le l2 with g | g
    · exact absurd r2 (aa _ g)
    · exact g
  have e3:core.length=fu.length:=by omega
  have hp:p=p':=by
    have a1:=s1 i0;have a2:=s2 i0;rw [← e3,a1] at a2;exact qD hne a2
  refine ⟨hp,by rw [h.hc,h'.hc,e3],List.ext_getElem e3 (fun j h1 h2 => ?_)⟩;have b1:=mF h 0 j h1;have b2:=mF h' 0 j h2;rw [Int.zero_mul,Int.zero_add,Int.zero_mul,iU] at b1 b2;rw [← b1,← b2,heq]
end
end Go.Proofs.YtcomnjodjijcmaaGreat.Q
namespace Go.Proofs.YtcomnjodjijcmaaGreat.Q
set_option linter.unusedVariables false
set_option linter.unusedSimpArgs false
open Go.RowKit Go.Proofs.YtcomnjodjijcmaaGreatW.dz Go.Proofs.YtcomnjodjijcmaaGreatW.eD M R P
section
variable {p c:Int} {core:List (List Sp)} {odd:List Gn}
theorem tO {B:Int→List Sp} {a:Nat} {n:Int} (s:Stp B a n) (i q:Int):B (i+q*a)=(B i).map (eO (q*n)):=by
  rcases Int.le_total 0 q with g | g
  · obtain ⟨k,rfl⟩:∃ k:Nat,q=(k:Int):=⟨q.toNat,by omega⟩
    exact tN s i k
  · obtain ⟨k,rfl⟩:∃ k:Nat,q = -(k:Int):=⟨(-q).toNat,by omega⟩
    have:=tN s (i + -(k:Int)*a) k;have e:i + -(k:Int)*a+(k:Int)*a=i:=by rw [Int.neg_mul];omega
    rw [e] at this;rw [this,iX];have e2:(k:Int)*n + -(k:Int)*n=0:=by rw [Int.neg_mul];omega
    rw [e2,iU]
theorem wR {B:Int→List Sp} {a:Nat} {n:Int} (s:Stp B a n) (m:Nat):Stp B (m*a) (m*n):=fun i=>by
  have:=tN s i m;rw [Int.natCast_mul];exact this
theorem aeK {B C:Int→List Sp} {a:Nat} {n:Int} (ha:1≤a) (s:Stp B a n) (t:Stp C a n) {x:Int} (w:∀ i,x<i→i≤x+a→B i=C i) (i:Int):B i=C i:=by
  have h1:=Int.emod_nonneg (i - x - 1) (show (a:Int)≠0 by omega);have h2:=Int.emod_lt_of_pos (i - x - 1) (show (0:Int)<a by omega);have h3:=Int.mul_ediv_add_emod (i - x - 1) a;have b:=tO s i (-((i - x - 1) / a));have d:=tO t i (-((i - x - 1) / a));have e:i + -((i - x - 1) / (a:Int))*(a:Int)=x+1+(i - x - 1) % a:=by
    rw [Int.neg_mul,Int.mul_comm];omega
  rw [e] at b d;have q:=w (x+1+(i - x - 1) % a) (by omega) (by omega);rw [b,d] at q;exact qC _ q
theorem ac9 {p' c':Int} {fu:List (List Sp)} {kr:List Gn} (h:SF p c core odd) (h':SF p' c' fu kr) (h0:0<core.length) (h0':0<fu.length) (ne:¬ ∀ l∈core,l=[]) {x:Int} (w:∀ i,x<i→i≤x+2*((fu.length*core.length:Nat):Int)→bT p c core i=bT p' c' fu i):∀ i,bT p c core i=bT p' c' fu i:=by
  have s1:=wR (kE h h0) fu.length;have s2:=wR (kE h' h0') core.length;rw [Nat.mul_comm] at s2;have hpos:1≤fu.length*core.length:=Nat.mul_pos h0' h0;obtain ⟨i0,i1,i2,i3⟩:∃ i0,x<i0∧i0≤x+((fu.length*core.length:Nat):Int)∧bT p c core i0≠[]:=by
    refine Classical.byContradiction fun hno=>ne fun l hl => ?_;obtain ⟨j,hj,rfl⟩:=List.getElem_of_mem hl;refine Classical.byContradiction fun hn=>hno ?_;have hc:=h.hc;have h1:=Int.emod_nonneg ((j:Int) - x - 1) (show (core.length:Int)≠0 by omega);have h2:=Int.emod_lt_of_pos ((j:Int) - x - 1) (show (0:Int)<core.length by omega);have h3:=Int.mul_ediv_add_emod ((j:Int) - x - 1) core.length;have hle:core.length≤fu.length*core.length:=Nat.le_mul_of_pos_left _ h0';refine ⟨x+1+((j:Int) - x - 1) % core.length,by omega,by omega,?_⟩;have e:x+1+((j:Int) - x - 1) % core.length=(-(((j:Int) - x - 1) / core.length))*c+(j:Int):=by
      rw [hc,Int.neg_mul,Int.mul_comm];omega
    rw [e,mF h _ j hj];simpa using hn
  have a1:=s1 i0;have a2:=s2 i0;have q0:=w i0 i1 (by omega);have q1:=w (i0+((fu.length*core.length:Nat):Int)) (by omega) (by omega);rw [a1,a2,← q0] at q1;have hn:=qD i3 q1;rw [← hn] at s2;exact aeK hpos s1 s2 (fun i b1 b2=>w i b1 (by omega))
end
end Go.Proofs.YtcomnjodjijcmaaGreat.Q
namespace Go.Proofs.YtcomnjodjijcmaaGreat.Q
set_option linter.unusedVariables false
set_option linter.unusedSimpArgs false
open Go.RowKit Go.Proofs.YtcomnjodjijcmaaGreatW.dz Go.Proofs.YtcomnjodjijcmaaGreatW.eD M R P
section
variable {p c:Int} {core:List (List Sp)} {odd:List Gn}
theorem yG (h:SF p c core odd) {g:Gn} (hg:g∈odd):jm p c core odd g.f0=(g.f1,0):=by
  rw [lV,if_pos (h.hidx g hg),mV (kR h.hup hg)];by_cases z:g.f1=[]
  · rw [if_pos z,z]
  · rw [if_neg z]
    have:=oz (h.hodd g hg);rw [pz,iU] at this;exact this
theorem abC {kr:List Gn} (h:SF p c core odd) (h':SF p c core kr) (np:∀ g∈odd,jv p c core g=false) (eq:∀ i,inR i→jm p c core odd i=jm p c core kr i):∀ g∈odd,g∈kr:=by
  intro g hg;have e:=eq g.f0 (h.hidx g hg);rw [yG h hg] at e;cases ho:iW kr g.f0 with
  | none =>
    have q:jm p c core [] g.f0=(g.f1,0):=by rw [e];exact j6 (kH ho).symm
    have:=l7.2 q;rw [np g hg] at this;cases this
  | some l =>
    obtain ⟨g',g1,g2,g3⟩:=je ho;have e2:=yG h' g1;rw [g2,← e] at e2;have e3:g.f1=g'.f1:=(Prod.mk.inj e2).1;have:g=g':=by
      cases g with
      | mk a b =>
        cases g' with
        | mk a' b' =>
          simp only at g2 e3;rw [g2,e3]
    rw [this];exact g1
theorem rM:∀ {a b:List Gn},a.Pairwise (fun x y=>x.f0<y.f0)→b.Pairwise (fun x y=>x.f0<y.f0)→(∀ g∈a,g∈b)→(∀ g∈b,g∈a)→a=b
  | [],[],_,_,_,_=>rfl
  | [],y :: u,_,_,_,h=>by have:=h y (by simp);cases this
  | x :: t,[],_,_,h,_=>by have:=h x (by simp);cases this
  | x :: t,y :: u,ha,hb,h1,h2=>by
    obtain ⟨a1,a2⟩:=List.pairwise_cons.1 ha;obtain ⟨b1,b2⟩:=List.pairwise_cons.1 hb;have hxy:x=y:=by
      rcases List.mem_cons.1 (h1 x (by simp)) with e | e
      · exact e
      · rcases List.mem_cons.1 (h2 y (by simp)) with f | f
        · exact f.symm
        · have:=a1 y f
          have:=b1 x e;omega
    subst hxy;congr 1;refine rM a2 b2 (fun g hg => ?_) (fun g hg => ?_)
    · rcases List.mem_cons.1 (h1 g (by simp [hg])) with e | e
      · have:=a1 g hg
        rw [e] at this;omega
      · exact e
    · rcases List.mem_cons.1 (h2 g (by simp [hg])) with e | e
      · have:=b1 g hg
        rw [e] at this;omega
      · exact e
theorem aeL {kr:List Gn} (h:SF p c core odd) (h':SF p c core kr) (np:∀ g∈odd,jv p c core g=false) (aa:∀ g∈kr,jv p c core g=false) (eq:∀ i,inR i→jm p c core odd i=jm p c core kr i):odd=kr :=
  rM h.hup h'.hup (abC h h' np eq) (abC h' h aa (fun i hi=>(eq i hi).symm))
end
end Go.Proofs.YtcomnjodjijcmaaGreat.Q
namespace Go.Proofs.YtcomnjodjijcmaaGreat.Q
set_option linter.unusedVariables false
set_option linter.unusedSimpArgs false
open Go.RowKit Go.Proofs.YtcomnjodjijcmaaGreatW.dz Go.Proofs.YtcomnjodjijcmaaGreatW.eD M R P
section
variable {p c:Int} {core:List (List Sp)} {odd:List Gn}
structure Can (p c:Int) (core:List (List Sp)) (odd:List Gn):Prop where
  s:SF p c core odd
  mn:∀ d,d<core.length→¬ Rep p core d
  nb:core≠[]→¬ ∀ l∈core,l=[]
  np:∀ g∈odd,jv p c core g=false
theorem abD {i:Int} (h:core=[]):bT p c core i=[]:=by
  subst h;unfold bT fO;split <;> simp
theorem vM.can (h:SF p c core odd) {r:P.S25} (s:vM p core odd r):Can r.f0 r.f1 r.f2 r.f3:=by
  have aa:∀ i,bT r.f0 r.f1 r.f2 i=bT p c core i:=fun i=>by rw [← nN,← nN];exact s.c.ticks h i
  have np:∀ g∈r.f3,jv r.f0 r.f1 r.f2 g=false:=fun g hg=>by
    rw [s.o] at hg;have:=(List.mem_filter.1 hg).2;simpa using this
  obtain ⟨sb,_⟩:=s.c.sf h;have sb':SF r.f0 r.f1 r.f2 []:=sb;by_cases hb:∀ l∈core,l=[]
  · have e:=s.c.e hb
    have e2:r.f2=[]:=congrArg (fun x:P.S25=>x.f2) e;exact ⟨s.sf h,fun d hd=>by rw [e2] at hd;simp at hd,fun hn=>absurd e2 hn,np⟩
  · obtain ⟨d,q,mn,e⟩:=s.c.n hb
    have hlen:0<core.length:=by
      cases core with
      | nil=>exact absurd (fun l hl=>by cases hl) hb
      | cons a t=>simp
    have hdl:d≤core.length:=Nat.le_of_dvd hlen q.d1;have e2:r.f2=core.take d:=congrArg (fun x:P.S25=>x.f2) e;have el:r.f2.length=d:=by rw [e2,List.length_take];omega
    obtain ⟨i0,hi0⟩:∃ i0,bT p c core i0≠[]:=by
      refine Classical.byContradiction fun hno=>hb fun l hl => ?_;obtain ⟨j,hj,rfl⟩:=List.getElem_of_mem hl;refine Classical.byContradiction fun hn=>hno ⟨0*c+j,?_⟩;rw [mF h 0 j hj];simpa using hn
    refine ⟨s.sf h,fun d' hd' hr => ?_,fun _ hall => ?_,np⟩
    · rw [el] at hd'
      have st:Stp (bT p c core) d' (r.f0 / ((r.f2.length / d':Nat):Int)):=fun i=>by
        have:=tK sb' hr.d0 (by omega) hr.tn i;rw [aa,aa] at this;exact this
      have dv:d' ∣ core.length:=by
        have:=hr.d1;rw [el] at this;exact Nat.dvd_trans this q.d1
      exact mn d' hd' (abB h hlen hi0 hr.d0 dv st)
    · refine hi0 ?_
      rw [← aa];unfold bT;have:fO r.f1 r.f2 i0=[]:=by
        refine Classical.byContradiction fun hn => ?_;obtain ⟨_,_,j,hj,_,e⟩:=sZ sb' hn;rw [e] at hn;exact hn (hall _ (List.getElem_mem hj))
      rw [this];rfl
theorem aeM {p' c':Int} {fu:List (List Sp)} {kr:List Gn} (a:Can p c core odd) (b:Can p' c' fu kr) {x L:Int} (h1:2*((fu.length*core.length:Nat):Int)≤L) (h2:(core.length:Int)≤L) (h3:(fu.length:Int)≤L) (w:∀ i,x<i→i≤x+L→bT p c core i=bT p' c' fu i) (eq:∀ i,inR i→jm p c core odd i=jm p' c' fu kr i):p=p'∧c=c'∧core=fu∧odd=kr:=by
  have hit:∀ {p c:Int} {core:List (List Sp)} {odd:List Gn},Can p c core odd→(core.length:Int)≤L→core≠[]→∃ i,x<i∧i≤x+L∧bT p c core i≠[]:=fun {p c core odd} a hl hn=>by
    refine Classical.byContradiction fun hno=>a.nb hn fun l hl2 => ?_;obtain ⟨j,hj,rfl⟩:=List.getElem_of_mem hl2;refine Classical.byContradiction fun hne=>hno ?_;have hc:=a.s.hc;have e1:=Int.emod_nonneg ((j:Int) - x - 1) (show (core.length:Int)≠0 by omega);have e2:=Int.emod_lt_of_pos ((j:Int) - x - 1) (show (0:Int)<core.length by omega);have e3:=Int.mul_ediv_add_emod ((j:Int) - x - 1) core.length;refine ⟨x+1+((j:Int) - x - 1) % core.length,by omega,by omega,?_⟩;have e:x+1+((j:Int) - x - 1) % core.length=(-(((j:Int) - x - 1) / core.length))*c+(j:Int):=by
      rw [hc,Int.neg_mul,Int.mul_comm];omega
    rw [e,mF a.s _ j hj];simpa using hne
  have cores:p=p'∧c=c'∧core=fu:=by
    by_cases n1:core=[]
    · by_cases n2:fu=[]
      · have c1:c=0:=by rw [a.s.hc,n1];rfl
        have c2:c'=0:=by rw [b.s.hc,n2];rfl
        exact ⟨by rw [a.s.hz.1 c1,b.s.hz.1 c2],by rw [c1,c2],by rw [n1,n2]⟩
      · obtain ⟨i,i1,i2,i3⟩:=hit b h3 n2
        rw [← w i i1 i2,abD n1] at i3;exact absurd rfl i3
    · by_cases n2:fu=[]
      · obtain ⟨i,i1,i2,i3⟩:=hit a h2 n1
        rw [w i i1 i2,abD n2] at i3;exact absurd rfl i3
      · have h0:=List.length_pos_iff.2 n1
        have h0':=List.length_pos_iff.2 n2;have all:=ac9 a.s b.s h0 h0' (a.nb n1) (x:=x) (fun i i1 i2=>w i i1 (by omega));obtain ⟨i,_,_,i3⟩:=hit a h2 n1;exact ac8 a.s b.s a.mn b.mn h0 h0' i3 all
  obtain ⟨rfl,rfl,rfl⟩:=cores;exact ⟨rfl,rfl,rfl,aeL a.s b.s a.np b.np eq⟩
end
end Go.Proofs.YtcomnjodjijcmaaGreat.Q
namespace Go.Proofs.YtcomnjodjijcmaaGreat.Q
set_option linter.unusedVariables false
set_option linter.unusedSimpArgs false
open Go.RowKit Go.Proofs.YtcomnjodjijcmaaGreatW.dz Go.Proofs.YtcomnjodjijcmaaGreatW.eD M R P
section
variable {p c:Int} {core:List (List Sp)} {odd:List Gn}
theorem Bes.to {p' c':Int} {fu:List (List Sp)} {kr:List Gn} (e:∀ i,gT p' c' fu kr i=gT p c core odd i) {i:Int} (b:Bes p c core odd i):Bes p' c' fu kr i:=by
  have v:∀ k,jm p' c' fu kr k=jm p c core odd k:=fun k=>j6 (e k);have n:∀ k,fs c' fu kr k≠[]→fs c core odd k≠[]:=fun k h=>(lF (p:=p)).2 (by rw [← e k];exact (lF (p:=p')).1 h);have z:∀ k,fs c' fu kr k=[]→fs c core odd k=[]:=fun k h=>by
    refine Classical.byContradiction fun h2 => ?_;have:=(lF (p:=p)).1 h2;rw [← e k] at this;exact (lF (p:=p')).2 this h
  have g:∀ j k,gap c' fu kr j k→gap c core odd j k:=fun j k h m a d=>z m (h m a d);refine ⟨by rw [v];exact b.he,fun k a1 a2 a3 a4 => ?_,fun k a1 a2 a3 a4 => ?_,fun j k a1 a2 a3 a4 a5 a6 a7 a8 => ?_⟩
  · rw [v,v];exact b.up k a1 a2 (n k a3) (g _ _ a4)
  · rw [v,v];exact b.dn k a1 a2 (n k a3) (g _ _ a4)
  · rw [v,v];exact b.ov j k a1 a2 a3 a4 (n j a5) (n k a6) (g _ _ a7) (g _ _ a8)
theorem vM.gr (h:GR p c core odd) {r:P.S25} (s:vM p core odd r):GR r.f0 r.f1 r.f2 r.f3 :=
  ⟨s.sf h.s,s.c.tf h.s h.t,fun g hg=>Bes.to (fun i=>s.ac7 h.s i) (h.b g (by rw [s.o] at hg;exact (List.mem_filter.1 hg).1))⟩
end
end Go.Proofs.YtcomnjodjijcmaaGreat.Q
namespace Go.Proofs.YtcomnjodjijcmaaGreat.Q
set_option linter.unusedVariables false
set_option linter.unusedSimpArgs false
open Go.RowKit Go.Proofs.YtcomnjodjijcmaaGreatW.dz Go.Proofs.YtcomnjodjijcmaaGreatW.eD M R P
section
variable {p c:Int} {core:List (List Sp)} {odd:List Gn}
end
end Go.Proofs.YtcomnjodjijcmaaGreat.Q
