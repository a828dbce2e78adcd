/- Lemmas for laws of chapter 7: what the functions that they reach compute. No condition of its own. -/
import Derived.Test.YtcomnjodjijcmaaGreatYA16
namespace Go.Proofs.YtcomnjodjijcmaaGreat.Q
set_option linter.unusedVariables false
set_option linter.unusedSimpArgs false
open Go.RowKit Go.Proofs.YtcomnjodjijcmaaGreatW.dz Go.Proofs.YtcomnjodjijcmaaGreatW.eD M R P
section
variable {p c:Int} {core:List (List Sp)} {odd:List Gn}
theorem iX (a b:Int) (l:List Sp):(l.map (eO a)).map (eO b)=l.map (eO (a+b)):=by
  rw [List.map_map];refine List.map_congr_left (fun s _ => ?_);simp only [Function.comp,eO,Int.add_assoc]
theorem iU (l:List Sp):l.map (eO 0)=l:=(List.map_congr_left (fun s _=>show eO 0 s=id s by simp [eO])).trans (List.map_id l)
def bT (p c:Int) (core:List (List Sp)) (i:Int):List Sp:=(fO c core i).map (eO (i / c*p))
theorem nN (i:Int):gT p c core [] i=bT p c core i:=by simp [gT,bT,fs,fb,iW]
theorem mF (h:SF p c core odd) (q:Int) (j:Nat) (hj:j<core.length):bT p c core (q*c+j)=core[j].map (eO (q*p)):=by
  obtain ⟨e1,e2⟩:=abg h q j hj;unfold bT;rw [e1,e2]
theorem tK (h:SF p c core odd) {d:Nat} {n:Int} (hd0:1≤d) (hd:d≤core.length) (t:wP p core d n) (i:Int):bT p c core (i+d)=(bT p c core i).map (eO n):=by
  have hc:=h.hc;have c0:0<c:=by omega
  have h1:=Int.emod_nonneg i (show c≠0 by omega);have h2:=Int.emod_lt_of_pos i c0;have h3:=Int.mul_ediv_add_emod i c;rw [Int.mul_comm] at h3;obtain ⟨r,hr⟩:∃ r:Nat,(r:Int)=i % c:=⟨(i % c).toNat,by omega⟩;have hrl:r<core.length:=by omega
  have e0:i=i / c*c+(r:Int):=by omega
  have eb:bT p c core i=core[r].map (eO (i / c*p)):=by
    conv=>lhs;rw [e0]
    exact mF h _ r hrl
  rw [eb,iX];by_cases g:r+d<core.length
  · have e1:i+d=i / c*c+((r+d:Nat):Int):=by omega
    rw [e1,mF h _ (r+d) g,(t r hrl).1 g,iX,Int.add_comm]
  · have g2:r+d - core.length<core.length:=by omega
    have e2:(i / c+1)*c=i / c*c+c:=by rw [Int.add_mul,Int.one_mul]
    have e1:i+d=(i / c+1)*c+((r+d - core.length:Nat):Int):=by omega
    rw [e1,mF h _ _ g2,(t r hrl).2 g g2,iX];congr 2;rw [Int.add_mul,Int.one_mul];omega
theorem yE (h:SF p c core odd) {d:Nat} {n:Int} (hd0:1≤d) (hd:d≤core.length) (t:wP p core d n) (i:Int):∀ q:Nat,bT p c core (i+q*d)=(bT p c core i).map (eO (q*n)):=by
  intro q;induction q with
  | zero=>simp [iU]
  | succ q ih =>
    have e:i+((q+1:Nat):Int)*d=(i+q*d)+d:=by rw [Int.natCast_add,Int.add_mul];simp;omega
    rw [e,tK h hd0 hd t,ih,iX];congr 2;rw [Int.natCast_add,Int.add_mul];simp
theorem afK (h:SF p c core odd) {d:Nat} {n:Int} (hd0:1≤d) (hd:d≤core.length) (t:wP p core d n) (i q:Int):bT p c core (i+q*d)=(bT p c core i).map (eO (q*n)):=by
  rcases Int.le_total 0 q with g | g
  · obtain ⟨k,rfl⟩:∃ k:Nat,q=(k:Int):=⟨q.toNat,by omega⟩
    exact yE h hd0 hd t i k
  · obtain ⟨k,rfl⟩:∃ k:Nat,q = -(k:Int):=⟨(-q).toNat,by omega⟩
    have:=yE h hd0 hd t (i + -(k:Int)*d) k;have e:i + -(k:Int)*d+(k:Int)*d=i:=by rw [Int.neg_mul];omega
    rw [e] at this;rw [this,iX];have e2:(k:Int)*n + -(k:Int)*n=0:=by rw [Int.neg_mul];omega
    rw [e2,iU]
theorem ac3.ticks (h:SF p c core odd) {r:P.S25} (s:ac3 p core r) (i:Int):gT r.f0 r.f1 r.f2 [] i=gT p c core [] i:=by
  rw [nN,nN];by_cases hb:∀ l∈core,l=[]
  · rw [s.e hb]
    have e1:fO c core i=[]:=by
      refine Classical.byContradiction fun hn => ?_;obtain ⟨_,_,j,hj,_,e⟩:=sZ h hn;rw [e] at hn;exact hn (hb _ (List.getElem_mem hj))
    unfold bT;rw [e1];simp [fO]
  · obtain ⟨s1,_⟩:=s.sf h
    obtain ⟨d,q,_,rfl⟩:=s.n hb;have hlen:0<core.length:=by
      cases core with
      | nil=>exact absurd (fun l hl=>by cases hl) hb
      | cons a t=>simp
    have hdl:d≤core.length:=Nat.le_of_dvd hlen q.d1;have hd0:=q.d0;have h1:=Int.emod_nonneg i (show (d:Int)≠0 by omega);have h2:=Int.emod_lt_of_pos i (show (0:Int)<d by omega);have h3:=Int.mul_ediv_add_emod i d;rw [Int.mul_comm] at h3;obtain ⟨j,hj⟩:∃ j:Nat,(j:Int)=i % d:=⟨(i % d).toNat,by omega⟩;have e0:i=(j:Int)+i / d*d:=by omega
    have e1:i=i / d*d+(j:Int):=by omega
    have jl:j<(core.take d).length:=by simp only [List.length_take];omega
    have lhs:=mF s1 (i / d) j jl;rw [← e1] at lhs;have rhs:=afK h hd0 hdl q.tn (j:Int) (i / d);rw [← e0] at rhs;have base:=mF h 0 j (by omega);rw [Int.zero_mul,Int.zero_add,Int.zero_mul,iU] at base;rw [lhs,rhs,base,List.getElem_take]
end
end Go.Proofs.YtcomnjodjijcmaaGreat.Q
namespace Go.Proofs.YtcomnjodjijcmaaGreat.Q
set_option linter.unusedVariables false
set_option linter.unusedSimpArgs false
open Go.RowKit Go.Proofs.YtcomnjodjijcmaaGreatW.dz Go.Proofs.YtcomnjodjijcmaaGreatW.eD M R P
theorem oz {l:List Sp} (h:SL (-1099511627776) 1099511627776 l):lU 0 l=(l,0):=by
  unfold lU;rw [if_pos (List.all_eq_true.2 fun s hs=>qy.2 (by have:=SL.ticks h hs;omega))];have:l.map (eO 0)=l:=(List.map_congr_left (fun s _=>show eO 0 s=id s by simp [eO])).trans (List.map_id l);rw [this]
section
variable {p c:Int} {core:List (List Sp)} {odd:List Gn}
theorem yF {l:List Sp} {x:Int}:vL l x=true↔∃ s∈l,s.f0≤x∧x≤s.f1:=vB
def thV (p c:Int) (core:List (List Sp)) (odd:List Gn) (i:Int):List Sp:=(jm p c core odd i).1
theorem zO (h:SF p c core odd) (i:Int):(Ex p c core odd i∧jm p c core odd i=(gT p c core odd i,0)∧gT p c core odd i≠[])∨(¬ Ex p c core odd i∧(jm p c core odd i).1=[]):=by
  by_cases e:Ex p c core odd i
  · exact .inl ⟨e,h.ou e,(kD e.n).1⟩
  · refine .inr ⟨e,?_⟩
    by_cases hn:fs c core odd i=[]
    · unfold jm;split
      · simp [hn]
      · rfl
    · rw [h.abf hn e]
theorem vG {α:Type} (f:α→Int) (b:Int):∀ {l:List α},(∀ x∈l,f x≤b)→(l.map f).sum≤l.length*b
  | [],_=>by simp
  | x :: r,h=>by
    have:=vG f b (l:=r) (fun y hy=>h y (by simp [hy]));have:=h x (by simp);rw [List.map_cons,List.sum_cons,List.length_cons];rw [Int.natCast_add,Int.add_mul];omega
theorem wQ {α:Type} (f:α→Int) (h0:∀ x,0≤f x):∀ {l:List α} {x:α},x∈l→f x≤(l.map f).sum
  | [],x,h=>by cases h
  | y :: r,x,h=>by
    have hs:0≤(r.map f).sum:=qB (fun z hz=>by obtain ⟨a,_,rfl⟩:=List.mem_map.1 hz;exact h0 a);rw [List.map_cons,List.sum_cons];rcases List.mem_cons.1 h with rfl | h
    · omega
    · have:=wQ f h0 h
      have:=h0 y;omega
theorem aeH (h:SF p c core odd):kS core odd≤9223372036854775807:=by
  have h1:=vG (fun l:List Sp=>(l.length:Int)) 2199023255553 (l:=core) (fun l hl=>by have:=SL.len (lo:=0) (h.hcore l hl);omega);have h2:=vG (fun g:Gn=>(g.f1.length:Int)) 2199023255553 (l:=odd) (fun g hg=>by have:=SL.len (lo:=0) (h.hodd g hg);omega);have:=h.hl;have:=h.hlo;unfold kS;omega
theorem afL (h:SF p c core odd) (i:Int):((fs c core odd i).length:Int)≤kS core odd:=by
  have n1:0≤(core.map fun l:List Sp=>(l.length:Int)).sum:=qB (fun z hz=>by obtain ⟨a,_,rfl⟩:=List.mem_map.1 hz;omega);have n2:0≤(odd.map fun g:Gn=>(g.f1.length:Int)).sum:=qB (fun z hz=>by obtain ⟨a,_,rfl⟩:=List.mem_map.1 hz;omega);unfold kS;unfold fs;cases ho:iW odd i with
  | some l =>
    obtain ⟨g,hg,_,e⟩:=je ho;have:=wQ (fun g:Gn=>(g.f1.length:Int)) (fun _=>by omega) hg;simp only [e] at this;simp only;omega
  | none =>
    by_cases hc:c=0
    · simp only [fO,if_pos hc];simp;omega
    · have:=wQ (fun l:List Sp=>(l.length:Int)) (fun _=>by omega) (h.jq i hc)
      simp only at this ⊢;omega
theorem abA (h:SF p c core odd) (i:Int):((gT p c core odd i).length:Int)≤kS core odd:=by
  have:=afL h i;unfold gT;rw [List.length_map];exact this
end
variable [Inhabited WT]
variable {p c:Int} {core:List (List Sp)} {odd:List Gn}
theorem zP (m:MF core odd):∃ b,Ev (fun k=>fG.f k p c core odd) b∧(b=true→FOK p c core odd∧GR p c core odd∧core.length≤12∧odd.length≤8∧kS core odd≤60):=by
  have wrong:∀ {P:Prop},false=true→P:=fun e=>by cases e
  unfold fG.f;by_cases hl:(core.length:Int)≤12
  case neg=>exact ⟨false,Ev.bind (a:=false) (Ev.congr (f:=fun _=>some false) (fun k=>by simp [eP.f,hl]) (Ev.now _)) (Ev.now _),wrong⟩
  by_cases hlo:(odd.length:Int)≤8
  case neg=>exact ⟨false,Ev.bind (a:=false) (Ev.congr (f:=fun _=>some false) (fun k=>by simp [eP.f,hl,hlo]) (Ev.now _)) (Ev.now _),wrong⟩
  obtain ⟨n,⟨n1,n2⟩,e,e1,e2,e3,e4⟩:=nM (p:=p) (c:=c) m (by omega) (by omega);have hs:Ev (fun k=>eP.f k p c core odd) (decide (n≤60)):=by
    simp only [eP.f,decide_eq_true_eq,hl,hlo,if_true];exact Ev.bind n1 (Ev.now _)
  by_cases hn:n≤60
  · refine ⟨decide (e=0),Ev.bind hs (Ev.yes (by simpa using hn) (Ev.bind e1 (Ev.now _))),fun he => ?_⟩
    have:=e4.1 (by simpa using he);exact ⟨this.2.fok,this.2,by omega,by omega,by have:=n2 (aeH this.2.s);omega⟩
  · exact ⟨false,Ev.bind hs (Ev.no (by simpa using hn) (Ev.now _)),wrong⟩
end Go.Proofs.YtcomnjodjijcmaaGreat.Q
namespace Go.Proofs.YtcomnjodjijcmaaGreat.Q
set_option linter.unusedVariables false
set_option linter.unusedSimpArgs false
open Go.RowKit Go.Proofs.YtcomnjodjijcmaaGreatW.dz Go.Proofs.YtcomnjodjijcmaaGreatW.eD M R P
section
variable {p c:Int} {core:List (List Sp)} {odd:List Gn}
def mvT (l:List Sp):List Sp × Int:=if l.all (okM 0) then (l,0) else ([],20)
theorem pz (n:Int) (l:List Sp):lU n l=mvT (l.map (eO n)):=by
  unfold lU mvT;have:(l.map (eO n)).all (okM 0)=l.all (okM n):=by
    rw [List.all_map];congr 1;funext s;simp [okM,eO]
  rw [this]
theorem lV (i:Int):jm p c core odd i=if inR i then (if gT p c core odd i=[] then ([],0) else mvT (gT p c core odd i)) else ([],20):=by
  unfold jm gT;by_cases hr:inR i
  · rw [if_pos hr,if_pos hr]
    by_cases hz:fs c core odd i=[]
    · rw [if_pos hz,if_pos (by rw [hz];rfl)]
    · rw [if_neg hz,if_neg (by simpa using hz),pz]
  · rw [if_neg hr,if_neg hr]
theorem kH {i:Int} (h:iW odd i=none):gT p c core odd i=gT p c core [] i:=by
  unfold gT fs fb;rw [h];simp [iW]
theorem mV {i:Int} {l:List Sp} (h:iW odd i=some l):gT p c core odd i=l:=by
  unfold gT fs fb;rw [h];exact iU l
theorem j6 {p' c':Int} {fu:List (List Sp)} {kr:List Gn} {i:Int} (h:gT p c core odd i=gT p' c' fu kr i):jm p c core odd i=jm p' c' fu kr i:=by
  rw [lV,lV,h]
theorem vM.aeI (h:SF p c core odd) {r:P.S25} (s:vM p core odd r) (i:Int):jm r.f0 r.f1 r.f2 r.f3 i=jm p c core odd i:=by
  have ho:=s.o;have hup:r.f3.Pairwise (fun a b=>a.f0<b.f0):=by rw [ho];exact h.hup.filter _
  have bare:gT r.f0 r.f1 r.f2 [] i=gT p c core [] i:=s.c.ticks h i;cases hi:iW odd i with
  | none =>
    have hn:iW r.f3 i=none:=iT.2 (fun g hg e=>by
      rw [ho] at hg;exact iT.1 hi g (List.mem_filter.1 hg).1 e)
    exact j6 (by rw [kH hn,kH hi,bare])
  | some l =>
    obtain ⟨g,g1,g2,g3⟩:=je hi;cases hp:jv r.f0 r.f1 r.f2 g with
    | false =>
      have hg:g∈r.f3:=by rw [ho];exact List.mem_filter.2 ⟨g1,by simp [hp]⟩
      have:=kR hup hg;rw [g2,g3] at this;exact j6 (by rw [mV this,mV hi])
    | true =>
      have hn:iW r.f3 i=none:=iT.2 (fun g' hg e=>by
        rw [ho] at hg;obtain ⟨m1,m2⟩:=List.mem_filter.1 hg;have e1:=kR h.hup m1;rw [e,hi] at e1;have e2:g'=g:=by
          cases g' with
          | mk a b =>
            cases g with
            | mk a' b' =>
              simp only at e g2 g3 e1;have:b=b':=by rw [g3];exact (Option.some.inj e1).symm
              rw [e,g2,this]
        rw [e2,hp] at m2;cases m2)
      have q:=l7.1 hp;rw [g2,g3] at q;have e1:jm r.f0 r.f1 r.f2 r.f3 i=(l,0):=by rw [j6 (kH hn)];exact q
      have hr:inR i:=by rw [← g2];exact h.hidx g g1
      have hS:SL (-1099511627776) 1099511627776 l:=by rw [← g3];exact h.hodd g g1
      have e2:jm p c core odd i=(l,0):=by
        rw [lV,if_pos hr,mV hi];by_cases z:l=[]
        · rw [if_pos z,z]
        · rw [if_neg z]
          have:=oz hS;rw [pz,iU] at this;exact this
      rw [e1,e2]
end
end Go.Proofs.YtcomnjodjijcmaaGreat.Q
namespace Go.Proofs.YtcomnjodjijcmaaGreat.Q
set_option linter.unusedVariables false
set_option linter.unusedSimpArgs false
open Go.RowKit Go.Proofs.YtcomnjodjijcmaaGreatW.dz Go.Proofs.YtcomnjodjijcmaaGreatW.eD M R P
section
variable {p c:Int} {core:List (List Sp)} {odd:List Gn}
theorem ac6 {l m:List Sp} (h:mvT l=(m,0)):l=m:=by
  unfold mvT at h;split at h
  · exact (Prod.mk.inj h).1
  · have:=(Prod.mk.inj h).2;cases this
theorem vM.ac7 (h:SF p c core odd) {r:P.S25} (s:vM p core odd r) (i:Int):gT r.f0 r.f1 r.f2 r.f3 i=gT p c core odd i:=by
  by_cases hr:inR i
  · have e:=s.aeI h i
    rw [lV,lV,if_pos hr,if_pos hr] at e;have ho:=s.o;have hup:r.f3.Pairwise (fun a b=>a.f0<b.f0):=by rw [ho];exact h.hup.filter _
    have bare:gT r.f0 r.f1 r.f2 [] i=gT p c core [] i:=s.c.ticks h i;cases hi:iW odd i with
    | none =>
      have hn:iW r.f3 i=none:=iT.2 (fun g hg e=>by
        rw [ho] at hg;exact iT.1 hi g (List.mem_filter.1 hg).1 e)
      rw [kH hn,kH hi,bare]
    | some l =>
      obtain ⟨g,g1,g2,g3⟩:=je hi;have hS:SL (-1099511627776) 1099511627776 l:=by rw [← g3];exact h.hodd g g1
      have e2:(if gT p c core odd i=[] then (([],0):List Sp × Int) else mvT (gT p c core odd i))=(l,0):=by
        rw [mV hi];by_cases z:l=[]
        · rw [if_pos z,z]
        · rw [if_neg z]
          have:=oz hS;rw [pz,iU] at this;exact this
      rw [e2] at e;rw [mV hi];by_cases z:gT r.f0 r.f1 r.f2 r.f3 i=[]
      · rw [if_pos z] at e
        rw [z];exact (Prod.mk.inj e).1
      · rw [if_neg z] at e
        exact ac6 e
  · have hno:∀ {o:List Gn},(∀ g∈o,g∈odd)→iW o i=none:=fun {o} ho=>iT.2 (fun g hg e=>hr (by rw [← e];exact h.hidx g (ho g hg)))
    rw [kH (hno (fun g hg=>by rw [s.o] at hg;exact (List.mem_filter.1 hg).1)),kH (hno (fun g hg=>hg))];exact s.c.ticks h i
theorem vM.sf (h:SF p c core odd) {r:P.S25} (s:vM p core odd r):SF r.f0 r.f1 r.f2 r.f3:=by
  obtain ⟨b,_⟩:=s.c.sf h;have hin:∀ g∈r.f3,g∈odd:=fun g hg=>by rw [s.o] at hg;exact (List.mem_filter.1 hg).1
  refine ⟨b.hc,b.hp0,b.hp1,b.hz,b.hcore,fun g hg=>h.hodd g (hin g hg),fun g hg=>h.hidx g (hin g hg),?_,b.hl,?_⟩
  · rw [s.o];exact h.hup.filter _
  · rw [s.o]
    have:=List.length_filter_le (fun g => !jv r.f0 r.f1 r.f2 g) odd;have:=h.hlo;omega
theorem lF {i:Int}:fs c core odd i≠[]↔gT p c core odd i≠[]:=by simp [gT]
theorem ac3.tf (h:SF p c core odd) (t:TF p core) {r:P.S25} (s:ac3 p core r):TF r.f0 r.f2:=by
  by_cases hb:∀ l∈core,l=[]
  · rw [s.e hb]
    exact ⟨List.Pairwise.nil,fun a ha=>by cases ha⟩
  · obtain ⟨s1,_⟩:=s.sf h
    obtain ⟨d,q,_,rfl⟩:=s.n hb;have hlen:0<core.length:=by
      cases core with
      | nil=>exact absurd (fun l hl=>by cases hl) hb
      | cons a t=>simp
    have hdl:d≤core.length:=Nat.le_of_dvd hlen q.d1;have hd0:=q.d0;refine ⟨List.Pairwise.sublist (List.take_sublist _ _) t.ta,fun a ha b hb' na nb => ?_⟩;obtain ⟨i,hi,rfl⟩:=List.getElem_of_mem ha;obtain ⟨j,hj,rfl⟩:=List.getElem_of_mem hb';simp only [List.length_take] at hi hj;simp only [List.getElem_take] at na nb ⊢;have hi2:i<core.length:=by omega
    have hj2:j<core.length:=by omega
    have Bi:=mF h 0 i hi2;have Bj:=mF h 0 j hj2;rw [Int.zero_mul,Int.zero_add,Int.zero_mul,iU] at Bi Bj;have aa:=tK h hd0 hdl q.tn (j:Int);rw [Bj] at aa;have ni:fs c core [] (i:Int)≠[]:=(lF (p:=p)).2 (by rw [nN,Bi];exact na);have nj:fs c core [] ((j:Int)+d)≠[]:=(lF (p:=p)).2 (by rw [nN,aa];simpa using nb);have o:=acY (odd:=odd) h t (show (i:Int)<(j:Int)+d by omega) ni nj;have gi:=(kD (p:=p) ni).2.2;have gj:=(kD (p:=p) nj).2.1;rw [nN,Bi] at gi;rw [nN,aa,om _ _ nb] at gj;omega
theorem vM.fok (h:FOK p c core odd) {r:P.S25} (s:vM p core odd r):FOK r.f0 r.f1 r.f2 r.f3:=by
  refine ⟨s.sf h.s,s.c.tf h.s h.t,fun i k hik ri rk ni nk => ?_⟩;have ei:=s.ac7 h.s i;have ek:=s.ac7 h.s k;have ni':fs c core odd i≠[]:=(lF (p:=p)).2 (by rw [← ei];exact (lF (p:=r.f0)).1 ni);have nk':fs c core odd k≠[]:=(lF (p:=p)).2 (by rw [← ek];exact (lF (p:=r.f0)).1 nk);have o:=h.ord i k hik ri rk ni' nk';have a1:=(kD (p:=p) ni').2.2;have a2:=(kD (p:=p) nk').2.1;have b1:=(kD (p:=r.f0) ni).2.2;have b2:=(kD (p:=r.f0) nk).2.1;rw [ei] at b1;rw [ek] at b2;omega
end
end Go.Proofs.YtcomnjodjijcmaaGreat.Q
namespace Go.Proofs.YtcomnjodjijcmaaGreat.Q
set_option linter.unusedVariables false
set_option linter.unusedSimpArgs false
open Go.RowKit Go.Proofs.YtcomnjodjijcmaaGreatW.dz Go.Proofs.YtcomnjodjijcmaaGreatW.eD M R P
section
variable {p c:Int} {core:List (List Sp)} {odd:List Gn}
def Stp (B:Int→List Sp) (a:Nat) (n:Int):Prop:=∀ i,B (i+a)=(B i).map (eO n)
theorem qC (n:Int) {l m:List Sp} (h:l.map (eO n)=m.map (eO n)):l=m:=by
  have:=congrArg (fun x=>x.map (eO (-n))) h;simpa only [zI] using this
theorem Stp.sub {B:Int→List Sp} {a b:Nat} {n m:Int} (h:a≤b) (s:Stp B a n) (t:Stp B b m):Stp B (b - a) (m - n):=fun i=>by
  have e1:=s (i+((b - a:Nat):Int));have e2:i+((b - a:Nat):Int)+(a:Int)=i+b:=by omega
  rw [e2,t i] at e1;refine qC n ?_;rw [← e1,iX];congr 2;omega
theorem afM {B:Int→List Sp}:∀ (s a b:Nat) (n m:Int),a+b≤s→1≤a→1≤b→Stp B a n→Stp B b m→∃ k,Stp B (Nat.gcd a b) k:=by
  intro s;induction s with
  | zero=>intro a b n m h ha hb _ _;omega
  | succ s ih =>
    intro a b n m h ha hb sa sb;rcases Nat.lt_trichotomy a b with g | g | g
    · obtain ⟨k,hk⟩:=ih a (b - a) n (m - n) (by omega) ha (by omega) sa (Stp.sub (by omega) sa sb)
      refine ⟨k,?_⟩;have:Nat.gcd a (b - a)=Nat.gcd a b:=by
        have e:b=(b - a)+a:=by omega
        conv=>rhs;rw [e]
        rw [Nat.gcd_add_self_right]
      rw [← this];exact hk
    · subst g
      exact ⟨n,by rw [Nat.gcd_self];exact sa⟩
    · obtain ⟨k,hk⟩:=ih (a - b) b (n - m) m (by omega) (by omega) hb (Stp.sub (by omega) sb sa) sb
      refine ⟨k,?_⟩;have:Nat.gcd (a - b) b=Nat.gcd a b:=by
        have e:a=(a - b)+b:=by omega
        conv=>rhs;rw [e]
        rw [Nat.gcd_add_self_left]
      rw [← this];exact hk
theorem kE (h:SF p c core odd) (h0:0<core.length):Stp (bT p c core) core.length p:=fun i=>by
  have:=tK h h0 (Nat.le_refl _) (aby (p:=p) h0).tn i;rw [Nat.div_self h0] at this;simpa using this
theorem aeJ (h:SF p c core odd) {d:Nat} {n:Int} (hd0:1≤d) (hd:d≤core.length) (s:Stp (bT p c core) d n):wP p core d n:=by
  intro i hi;have Bi:=mF h 0 i hi;rw [Int.zero_mul,Int.zero_add,Int.zero_mul,iU] at Bi;have st:=s (i:Int);rw [Bi] at st;refine ⟨fun g => ?_,fun g g2 => ?_⟩
  · have B2:=mF h 0 (i+d) g
    rw [Int.zero_mul,Int.zero_add,Int.zero_mul,iU] at B2;rw [← B2,← st];congr 1
  · have B2:=mF h 1 _ g2
    have hc:=h.hc;have e:(1:Int)*c+((i+d - core.length:Nat):Int)=(i:Int)+d:=by omega
    rw [e,st,Int.one_mul] at B2;refine qC p ?_;rw [← B2,iX];congr 2;omega
theorem tN {B:Int→List Sp} {a:Nat} {n:Int} (s:Stp B a n) (i:Int):∀ q:Nat,B (i+q*a)=(B i).map (eO (q*n)):=by
  intro q;induction q with
  | zero=>simp [iU]
  | succ q ih =>
    have e:i+((q+1:Nat):Int)*a=(i+q*a)+a:=by rw [Int.natCast_add,Int.add_mul];simp;omega
    rw [e,s,ih,iX];congr 2;rw [Int.natCast_add,Int.add_mul];simp
theorem qD {l:List Sp} (hl:l≠[]) {n m:Int} (h:l.map (eO n)=l.map (eO m)):n=m:=by
  cases l with
  | nil=>exact absurd rfl hl
  | cons s t =>
    have:=(List.cons.inj h).1;have:=congrArg (fun x:Sp=>x.f0) this;simp only [eO] at this;omega
theorem abB (h:SF p c core odd) (h0:0<core.length) {i0:Int} (hne:bT p c core i0≠[]) {d:Nat} {n:Int} (hd0:1≤d) (hdv:d ∣ core.length) (s:Stp (bT p c core) d n):Rep p core d:=by
  obtain ⟨m,hm⟩:=hdv;have e1:=tN s i0 m;have e2:=kE h h0 i0;have e3:i0+(m:Int)*d=i0+(core.length:Int):=by rw [hm,Int.natCast_mul,Int.mul_comm]
  rw [e3,e2] at e1;have e4:=qD hne e1;have e5:core.length / d=m:=by rw [hm];exact Nat.mul_div_cancel_left _ (by omega)
  have m0:(m:Int)≠0:=by
    intro e;have:m=0:=by omega
    rw [this] at hm;omega
  refine ⟨hd0,⟨m,hm⟩,by rw [e5];exact ⟨n,e4⟩,?_⟩;have e6:p / (((core.length / d:Nat):Int))=n:=by rw [e5,e4];exact Int.mul_ediv_cancel_left _ m0
  rw [e6];exact aeJ h hd0 (Nat.le_of_dvd h0 ⟨m,hm⟩) s
theorem ac8 {p' c':Int} {fu:List (List Sp)} {kr:List Gn} (h:SF p c core odd) (h':SF p' c' fu kr) (mn:∀ d,d<core.length→¬ Rep p core d) (aa:∀ d,d<fu.length→¬ Rep p' fu d) (h0:0<core.length) (h0':0<fu.length) {i0:Int} (hne:bT p c core i0≠[]) (heq:∀ i,bT p c core i=bT p' c' fu i):p=p'∧c=c'∧core=fu:=by
  have hB:bT p c core=bT p' c' fu:=funext heq;have s1:=kE h h0;have s2:=kE h' h0';rw [← hB] at s2;obtain ⟨k,hk⟩:=afM _ _ _ _ _ (Nat.le_refl _) h0 h0' s1 s2;have g0:1≤Nat.gcd core.length fu.length:=Nat.gcd_pos_of_pos_left _ h0;have r1:=abB h h0 hne g0 (Nat.gcd_dvd_left _ _) hk;have r2:=abB h' h0' (by rw [← heq];exact hne) g0 (Nat.gcd_dvd_right _ _) (by rw [← hB];exact hk);have l1:=Nat.le_of_dvd h0 (Nat.gcd_dvd_left core.length fu.length);have l2:=Nat.le_of_dvd h0' (Nat.gcd_dvd_right core.length fu.length);have e1:Nat.gcd core.length fu.length=core.length:=by
    rcases Nat.lt_or_eq_of_le l1 with g | g
    · exact absurd r1 (mn _ g)
    · exact g
  have e2:Nat.gcd core.length fu.length=fu.length:=by
    rcases Nat.lt_or_eq_of_le l2 with g | g
    · exact absurd r2 (aa _ g)
    · exact g
  have e3:core.length=fu.length:=by omega
  have hp:p=p':=by
    have a1:=s1 i0;have a2:=s2 i0;rw [← e3,a1] at a2;exact qD hne a2
  refine ⟨hp,by rw [h.hc,h'.hc,e3],List.ext_getElem e3 (fun j h1 h2 => ?_)⟩;have b1:=mF h 0 j h1;have b2:=mF h' 0 j h2;rw [Int.zero_mul,Int.zero_add,Int.zero_mul,iU] at b1 b2;rw [← b1,← b2,heq]
end
end Go.Proofs.YtcomnjodjijcmaaGreat.Q
namespace Go.Proofs.YtcomnjodjijcmaaGreat.Q
set_option linter.unusedVariables false
set_option linter.unusedSimpArgs false
open Go.RowKit Go.Proofs.YtcomnjodjijcmaaGreatW.dz Go.Proofs.YtcomnjodjijcmaaGreatW.eD M R P
section
variable {p c:Int} {core:List (List Sp)} {odd:List Gn}
theorem tO {B:Int→List Sp} {a:Nat} {n:Int} (s:Stp B a n) (i q:Int):B (i+q*a)=(B i).map (eO (q*n)):=by
  rcases Int.le_total 0 q with g | g
  · obtain ⟨k,rfl⟩:∃ k:Nat,q=(k:Int):=⟨q.toNat,by omega⟩
    exact tN s i k
  · obtain ⟨k,rfl⟩:∃ k:Nat,q = -(k:Int):=⟨(-q).toNat,by omega⟩
    have:=tN s (i + -(k:Int)*a) k;have e:i + -(k:Int)*a+(k:Int)*a=i:=by rw [Int.neg_mul];omega
    rw [e] at this;rw [this,iX];have e2:(k:Int)*n + -(k:Int)*n=0:=by rw [Int.neg_mul];omega
    rw [e2,iU]
theorem wR {B:Int→List Sp} {a:Nat} {n:Int} (s:Stp B a n) (m:Nat):Stp B (m*a) (m*n):=fun i=>by
  have:=tN s i m;rw [Int.natCast_mul];exact this
theorem aeK {B C:Int→List Sp} {a:Nat} {n:Int} (ha:1≤a) (s:Stp B a n) (t:Stp C a n) {x:Int} (w:∀ i,x<i→i≤x+a→B i=C i) (i:Int):B i=C i:=by
  have h1:=Int.emod_nonneg (i - x - 1) (show (a:Int)≠0 by omega);have h2:=Int.emod_lt_of_pos (i - x - 1) (show (0:Int)<a by omega);have h3:=Int.mul_ediv_add_emod (i - x - 1) a;have b:=tO s i (-((i - x - 1) / a));have d:=tO t i (-((i - x - 1) / a));have e:i + -((i - x - 1) / (a:Int))*(a:Int)=x+1+(i - x - 1) % a:=by
    rw [Int.neg_mul,Int.mul_comm];omega
  rw [e] at b d;have q:=w (x+1+(i - x - 1) % a) (by omega) (by omega);rw [b,d] at q;exact qC _ q
theorem ac9 {p' c':Int} {fu:List (List Sp)} {kr:List Gn} (h:SF p c core odd) (h':SF p' c' fu kr) (h0:0<core.length) (h0':0<fu.length) (ne:¬ ∀ l∈core,l=[]) {x:Int} (w:∀ i,x<i→i≤x+2*((fu.length*core.length:Nat):Int)→bT p c core i=bT p' c' fu i):∀ i,bT p c core i=bT p' c' fu i:=by
  have s1:=wR (kE h h0) fu.length;have s2:=wR (kE h' h0') core.length;rw [Nat.mul_comm] at s2;have hpos:1≤fu.length*core.length:=Nat.mul_pos h0' h0;obtain ⟨i0,i1,i2,i3⟩:∃ i0,x<i0∧i0≤x+((fu.length*core.length:Nat):Int)∧bT p c core i0≠[]:=by
    refine Classical.byContradiction fun hno=>ne fun l hl => ?_;obtain ⟨j,hj,rfl⟩:=List.getElem_of_mem hl;refine Classical.byContradiction fun hn=>hno ?_;have hc:=h.hc;have h1:=Int.emod_nonneg ((j:Int) - x - 1) (show (core.length:Int)≠0 by omega);have h2:=Int.emod_lt_of_pos ((j:Int) - x - 1) (show (0:Int)<core.length by omega);have h3:=Int.mul_ediv_add_emod ((j:Int) - x - 1) core.length;have hle:core.length≤fu.length*core.length:=Nat.le_mul_of_pos_left _ h0';refine ⟨x+1+((j:Int) - x - 1) % core.length,by omega,by omega,?_⟩;have e:x+1+((j:Int) - x - 1) % core.length=(-(((j:Int) - x - 1) / core.length))*c+(j:Int):=by
      rw [hc,Int.neg_mul,Int.mul_comm];omega
    rw [e,mF h _ j hj];simpa using hn
  have a1:=s1 i0;have a2:=s2 i0;have q0:=w i0 i1 (by omega);have q1:=w (i0+((fu.length*core.length:Nat):Int)) (by omega) (by omega);rw [a1,a2,← q0] at q1;have hn:=qD i3 q1;rw [← hn] at s2;exact aeK hpos s1 s2 (fun i b1 b2=>w i b1 (by omega))
end
end Go.Proofs.YtcomnjodjijcmaaGreat.Q
namespace Go.Proofs.YtcomnjodjijcmaaGreat.Q
set_option linter.unusedVariables false
set_option linter.unusedSimpArgs false
open Go.RowKit Go.Proofs.YtcomnjodjijcmaaGreatW.dz Go.Proofs.YtcomnjodjijcmaaGreatW.eD M R P
section
variable {p c:Int} {core:List (List Sp)} {odd:List Gn}
theorem yG (h:SF p c core odd) {g:Gn} (hg:g∈odd):jm p c core odd g.f0=(g.f1,0):=by
  rw [lV,if_pos (h.hidx g hg),mV (kR h.hup hg)];by_cases z:g.f1=[]
  · rw [if_pos z,z]
  · rw [if_neg z]
    have:=oz (h.hodd g hg);rw [pz,iU] at this;exact this
theorem abC {kr:List Gn} (h:SF p c core odd) (h':SF p c core kr) (np:∀ g∈odd,jv p c core g=false) (eq:∀ i,inR i→jm p c core odd i=jm p c core kr i):∀ g∈odd,g∈kr:=by
  intro g hg;have e:=eq g.f0 (h.hidx g hg);rw [yG h hg] at e;cases ho:iW kr g.f0 with
  | none =>
    have q:jm p c core [] g.f0=(g.f1,0):=by rw [e];exact j6 (kH ho).symm
    have:=l7.2 q;rw [np g hg] at this;cases this
  | some l =>
    obtain ⟨g',g1,g2,g3⟩:=je ho;have e2:=yG h' g1;rw [g2,← e] at e2;have e3:g.f1=g'.f1:=(Prod.mk.inj e2).1;have:g=g':=by
      cases g with
      | mk a b =>
        cases g' with
        | mk a' b' =>
          simp only at g2 e3;rw [g2,e3]
    rw [this];exact g1
theorem rM:∀ {a b:List Gn},a.Pairwise (fun x y=>x.f0<y.f0)→b.Pairwise (fun x y=>x.f0<y.f0)→(∀ g∈a,g∈b)→(∀ g∈b,g∈a)→a=b
  | [],[],_,_,_,_=>rfl
  | [],y :: u,_,_,_,h=>by have:=h y (by simp);cases this
  | x :: t,[],_,_,h,_=>by have:=h x (by simp);cases this
  | x :: t,y :: u,ha,hb,h1,h2=>by
    obtain ⟨a1,a2⟩:=List.pairwise_cons.1 ha;obtain ⟨b1,b2⟩:=List.pairwise_cons.1 hb;have hxy:x=y:=by
      rcases List.mem_cons.1 (h1 x (by simp)) with e | e
      · exact e
      · rcases List.mem_cons.1 (h2 y (by simp)) with f | f
        · exact f.symm
        · have:=a1 y f
          have:=b1 x e;omega
    subst hxy;congr 1;refine rM a2 b2 (fun g hg => ?_) (fun g hg => ?_)
    · rcases List.mem_cons.1 (h1 g (by simp [hg])) with e | e
      · have:=a1 g hg
        rw [e] at this;omega
      · exact e
    · rcases List.mem_cons.1 (h2 g (by simp [hg])) with e | e
      · have:=b1 g hg
        rw [e] at this;omega
      · exact e
theorem aeL {kr:List Gn} (h:SF p c core odd) (h':SF p c core kr) (np:∀ g∈odd,jv p c core g=false) (aa:∀ g∈kr,jv p c core g=false) (eq:∀ i,inR i→jm p c core odd i=jm p c core kr i):odd=kr :=
  rM h.hup h'.hup (abC h h' np eq) (abC h' h aa (fun i hi=>(eq i hi).symm))
end
end Go.Proofs.YtcomnjodjijcmaaGreat.Q
namespace Go.Proofs.YtcomnjodjijcmaaGreat.Q
set_option linter.unusedVariables false
set_option linter.unusedSimpArgs false
open Go.RowKit Go.Proofs.YtcomnjodjijcmaaGreatW.dz Go.Proofs.YtcomnjodjijcmaaGreatW.eD M R P
section
variable {p c:Int} {core:List (List Sp)} {odd:List Gn}
structure Can (p c:Int) (core:List (List Sp)) (odd:List Gn):Prop where
  s:SF p c core odd
  mn:∀ d,d<core.length→¬ Rep p core d
  nb:core≠[]→¬ ∀ l∈core,l=[]
  np:∀ g∈odd,jv p c core g=false
theorem abD {i:Int} (h:core=[]):bT p c core i=[]:=by
  subst h;unfold bT fO;split <;> simp
theorem vM.can (h:SF p c core odd) {r:P.S25} (s:vM p core odd r):Can r.f0 r.f1 r.f2 r.f3:=by
  have aa:∀ i,bT r.f0 r.f1 r.f2 i=bT p c core i:=fun i=>by rw [← nN,← nN];exact s.c.ticks h i
  have np:∀ g∈r.f3,jv r.f0 r.f1 r.f2 g=false:=fun g hg=>by
    rw [s.o] at hg;have:=(List.mem_filter.1 hg).2;simpa using this
  obtain ⟨sb,_⟩:=s.c.sf h;have sb':SF r.f0 r.f1 r.f2 []:=sb;by_cases hb:∀ l∈core,l=[]
  · have e:=s.c.e hb
    have e2:r.f2=[]:=congrArg (fun x:P.S25=>x.f2) e;exact ⟨s.sf h,fun d hd=>by rw [e2] at hd;simp at hd,fun hn=>absurd e2 hn,np⟩
  · obtain ⟨d,q,mn,e⟩:=s.c.n hb
    have hlen:0<core.length:=by
      cases core with
      | nil=>exact absurd (fun l hl=>by cases hl) hb
      | cons a t=>simp
    have hdl:d≤core.length:=Nat.le_of_dvd hlen q.d1;have e2:r.f2=core.take d:=congrArg (fun x:P.S25=>x.f2) e;have el:r.f2.length=d:=by rw [e2,List.length_take];omega
    obtain ⟨i0,hi0⟩:∃ i0,bT p c core i0≠[]:=by
      refine Classical.byContradiction fun hno=>hb fun l hl => ?_;obtain ⟨j,hj,rfl⟩:=List.getElem_of_mem hl;refine Classical.byContradiction fun hn=>hno ⟨0*c+j,?_⟩;rw [mF h 0 j hj];simpa using hn
    refine ⟨s.sf h,fun d' hd' hr => ?_,fun _ hall => ?_,np⟩
    · rw [el] at hd'
      have st:Stp (bT p c core) d' (r.f0 / ((r.f2.length / d':Nat):Int)):=fun i=>by
        have:=tK sb' hr.d0 (by omega) hr.tn i;rw [aa,aa] at this;exact this
      have dv:d' ∣ core.length:=by
        have:=hr.d1;rw [el] at this;exact Nat.dvd_trans this q.d1
      exact mn d' hd' (abB h hlen hi0 hr.d0 dv st)
    · refine hi0 ?_
      rw [← aa];unfold bT;have:fO r.f1 r.f2 i0=[]:=by
        refine Classical.byContradiction fun hn => ?_;obtain ⟨_,_,j,hj,_,e⟩:=sZ sb' hn;rw [e] at hn;exact hn (hall _ (List.getElem_mem hj))
      rw [this];rfl
theorem aeM {p' c':Int} {fu:List (List Sp)} {kr:List Gn} (a:Can p c core odd) (b:Can p' c' fu kr) {x L:Int} (h1:2*((fu.length*core.length:Nat):Int)≤L) (h2:(core.length:Int)≤L) (h3:(fu.length:Int)≤L) (w:∀ i,x<i→i≤x+L→bT p c core i=bT p' c' fu i) (eq:∀ i,inR i→jm p c core odd i=jm p' c' fu kr i):p=p'∧c=c'∧core=fu∧odd=kr:=by
  have hit:∀ {p c:Int} {core:List (List Sp)} {odd:List Gn},Can p c core odd→(core.length:Int)≤L→core≠[]→∃ i,x<i∧i≤x+L∧bT p c core i≠[]:=fun {p c core odd} a hl hn=>by
    refine Classical.byContradiction fun hno=>a.nb hn fun l hl2 => ?_;obtain ⟨j,hj,rfl⟩:=List.getElem_of_mem hl2;refine Classical.byContradiction fun hne=>hno ?_;have hc:=a.s.hc;have e1:=Int.emod_nonneg ((j:Int) - x - 1) (show (core.length:Int)≠0 by omega);have e2:=Int.emod_lt_of_pos ((j:Int) - x - 1) (show (0:Int)<core.length by omega);have e3:=Int.mul_ediv_add_emod ((j:Int) - x - 1) core.length;refine ⟨x+1+((j:Int) - x - 1) % core.length,by omega,by omega,?_⟩;have e:x+1+((j:Int) - x - 1) % core.length=(-(((j:Int) - x - 1) / core.length))*c+(j:Int):=by
      rw [hc,Int.neg_mul,Int.mul_comm];omega
    rw [e,mF a.s _ j hj];simpa using hne
  have cores:p=p'∧c=c'∧core=fu:=by
    by_cases n1:core=[]
    · by_cases n2:fu=[]
      · have c1:c=0:=by rw [a.s.hc,n1];rfl
        have c2:c'=0:=by rw [b.s.hc,n2];rfl
        exact ⟨by rw [a.s.hz.1 c1,b.s.hz.1 c2],by rw [c1,c2],by rw [n1,n2]⟩
      · obtain ⟨i,i1,i2,i3⟩:=hit b h3 n2
        rw [← w i i1 i2,abD n1] at i3;exact absurd rfl i3
    · by_cases n2:fu=[]
      · obtain ⟨i,i1,i2,i3⟩:=hit a h2 n1
        rw [w i i1 i2,abD n2] at i3;exact absurd rfl i3
      · have h0:=List.length_pos_iff.2 n1
        have h0':=List.length_pos_iff.2 n2;have all:=ac9 a.s b.s h0 h0' (a.nb n1) (x:=x) (fun i i1 i2=>w i i1 (by omega));obtain ⟨i,_,_,i3⟩:=hit a h2 n1;exact ac8 a.s b.s a.mn b.mn h0 h0' i3 all
  obtain ⟨rfl,rfl,rfl⟩:=cores;exact ⟨rfl,rfl,rfl,aeL a.s b.s a.np b.np eq⟩
end
end Go.Proofs.YtcomnjodjijcmaaGreat.Q
namespace Go.Proofs.YtcomnjodjijcmaaGreat.Q
set_option linter.unusedVariables false
set_option linter.unusedSimpArgs false
open Go.RowKit Go.Proofs.YtcomnjodjijcmaaGreatW.dz Go.Proofs.YtcomnjodjijcmaaGreatW.eD M R P
section
variable {p c:Int} {core:List (List Sp)} {odd:List Gn}
theorem Bes.to {p' c':Int} {fu:List (List Sp)} {kr:List Gn} (e:∀ i,gT p' c' fu kr i=gT p c core odd i) {i:Int} (b:Bes p c core odd i):Bes p' c' fu kr i:=by
  have v:∀ k,jm p' c' fu kr k=jm p c core odd k:=fun k=>j6 (e k);have n:∀ k,fs c' fu kr k≠[]→fs c core odd k≠[]:=fun k h=>(lF (p:=p)).2 (by rw [← e k];exact (lF (p:=p')).1 h);have z:∀ k,fs c' fu kr k=[]→fs c core odd k=[]:=fun k h=>by
    refine Classical.byContradiction fun h2 => ?_;have:=(lF (p:=p)).1 h2;rw [← e k] at this;exact (lF (p:=p')).2 this h
  have g:∀ j k,gap c' fu kr j k→gap c core odd j k:=fun j k h m a d=>z m (h m a d);refine ⟨by rw [v];exact b.he,fun k a1 a2 a3 a4 => ?_,fun k a1 a2 a3 a4 => ?_,fun j k a1 a2 a3 a4 a5 a6 a7 a8 => ?_⟩
  · rw [v,v];exact b.up k a1 a2 (n k a3) (g _ _ a4)
  · rw [v,v];exact b.dn k a1 a2 (n k a3) (g _ _ a4)
  · rw [v,v];exact b.ov j k a1 a2 a3 a4 (n j a5) (n k a6) (g _ _ a7) (g _ _ a8)
theorem vM.gr (h:GR p c core odd) {r:P.S25} (s:vM p core odd r):GR r.f0 r.f1 r.f2 r.f3 :=
  ⟨s.sf h.s,s.c.tf h.s h.t,fun g hg=>Bes.to (fun i=>s.ac7 h.s i) (h.b g (by rw [s.o] at hg;exact (List.mem_filter.1 hg).1))⟩
end
end Go.Proofs.YtcomnjodjijcmaaGreat.Q
namespace Go.Proofs.YtcomnjodjijcmaaGreat.Q
set_option linter.unusedVariables false
set_option linter.unusedSimpArgs false
open Go.RowKit Go.Proofs.YtcomnjodjijcmaaGreatW.dz Go.Proofs.YtcomnjodjijcmaaGreatW.eD M R P
section
variable {p c:Int} {core:List (List Sp)} {odd:List Gn}
theorem Can.fix (a:Can p c core odd) {r:P.S25} (s:vM p core odd r):r=⟨p,c,core,odd⟩:=by
  have hc:=a.s.hc;have e0:(⟨r.f0,r.f1,r.f2,[]⟩:P.S25)=⟨p,c,core,[]⟩:=by
    by_cases hb:∀ l∈core,l=[]
    · have n1:core=[]:=by
        refine Classical.byContradiction fun hn=>a.nb hn hb
      have c1:c=0:=by rw [hc,n1];rfl
      have p1:=a.s.hz.1 c1;rw [s.c.e hb,n1,c1,p1]
    · obtain ⟨d,q,_,e⟩:=s.c.n hb
      have hlen:0<core.length:=by
        cases core with
        | nil=>exact absurd (fun l hl=>by cases hl) hb
        | cons a t=>simp
      have hdl:d≤core.length:=Nat.le_of_dvd hlen q.d1;have hd:d=core.length:=by
        rcases Nat.lt_or_eq_of_le hdl with g | g
        · exact absurd q (a.mn d g)
        · exact g
      rw [e,hd,Nat.div_self hlen,List.take_length,← hc];simp
  have e1:=congrArg (fun x:P.S25=>x.f0) e0;have e2:=congrArg (fun x:P.S25=>x.f1) e0;have e3:=congrArg (fun x:P.S25=>x.f2) e0;simp only at e1 e2 e3;have ho:=s.o;rw [e1,e2,e3] at ho;have e4:odd.filter (fun g => !jv p c core g)=odd:=List.filter_eq_self.2 (fun g hg=>by rw [a.np g hg];rfl);rw [e4] at ho;cases r with
  | mk r0 r1 r2 r3 =>
    simp only at e1 e2 e3 ho;rw [e1,e2,e3,ho]
end
end Go.Proofs.YtcomnjodjijcmaaGreat.Q
namespace Go.Proofs.YtcomnjodjijcmaaGreat.Q
set_option linter.unusedVariables false
set_option linter.unusedSimpArgs false
open Go.RowKit Go.Proofs.YtcomnjodjijcmaaGreatW.dz Go.Proofs.YtcomnjodjijcmaaGreatW.eD M R P
section
variable {p c:Int} {core:List (List Sp)} {odd:List Gn}
def okC (l:List Sp):Prop:=l≠[] → -200≤kJ l∧kT l≤200
def okO (g:Gn):Prop:=(-100≤g.f0∧g.f0≤100)∧(g.f1≠[] → -3000≤kJ g.f1∧kT g.f1≤3000)
structure mW (p c:Int) (core:List (List Sp)) (odd:List Gn):Prop where
  ok:FOK p c core odd
  gr:GR p c core odd
  lc:core.length≤12
  lo:odd.length≤8
  sz:kS core odd≤60
  p60:p≤60
  hc:∀ l∈core,okC l
  ho:∀ g∈odd,okO g
theorem mW.gl (w:mW p c core odd) (m:Int):(gT p c core odd m).length≤100000:=by have:=abA w.ok.s m;have:=w.sz;omega
theorem ag6 {i c:Int} (hi : -6000≤i∧i≤6000) (hc:0<c) : -6000≤i / c∧i / c≤6000:=by
  constructor
  · refine (Int.le_ediv_iff_mul_le hc).2 ?_
    have:(-6000:Int)*c ≤ -6000*1:=Int.mul_le_mul_of_nonpos_left (by omega) (by omega);omega
  · rcases Int.lt_or_le i 0 with h | h
    · have:=Int.ediv_neg_of_neg_of_pos h hc;omega
    · have:=Int.ediv_le_self c h;omega
theorem mW.bd (w:mW p c core odd) {i:Int} (hi : -6000≤i∧i≤6000) (hn:fs c core odd i≠[]) : -400000≤gLo p c core odd i∧gHi p c core odd i≤400000:=by
  unfold gLo gHi;cases ho:iW odd i with
  | some l =>
    obtain ⟨g,g1,g2,g3⟩:=je ho;have hf:fs c core odd i=g.f1:=by unfold fs;rw [ho];exact g3.symm
    have hb:fb p c odd i=0:=by unfold fb;rw [ho]
    rw [hf] at hn;have:=(w.ho g g1).2 hn;rw [hf,hb];omega
  | none =>
    have hf:fs c core odd i=fO c core i:=by unfold fs;rw [ho]
    have hb:fb p c odd i=i / c*p:=by unfold fb;rw [ho]
    rw [hf] at hn;obtain ⟨c0,p0,j,hj,j1,j2⟩:=sZ w.ok.s hn;rw [hf,hb,j2];rw [j2] at hn;have:=w.hc _ (List.getElem_mem hj) hn;have q:=ag6 hi c0;have p6:=w.p60;have h1:i / c*p≤6000*p:=Int.mul_le_mul_of_nonneg_right q.2 (by omega);have h2 : -6000*p≤i / c*p:=Int.mul_le_mul_of_nonneg_right q.1 (by omega);omega
theorem mW.ex (w:mW p c core odd) {i:Int} (hi : -6000≤i∧i≤6000) (hn:fs c core odd i≠[]):Ex p c core odd i:=by
  have:=w.bd hi hn;exact ⟨by unfold inR;omega,hn,by omega,by omega⟩
theorem mW.th (w:mW p c core odd) {i:Int} (hi : -6000≤i∧i≤6000):∀ s∈thV p c core odd i,-1000000≤s.f0∧s.f1≤1000000:=by
  intro s hs;rcases zO w.ok.s i with ⟨e,e1,e2⟩ | ⟨e,e1⟩
  · have ev:thV p c core odd i=gT p c core odd i:=by unfold thV;rw [e1]
    rw [ev] at hs;have hS:=w.ok.s.ag3 e;have b:=w.bd hi e.n;obtain ⟨g1,g2,g3⟩:=kD (p:=p) e.n;have t:=SL.ticks hS hs;have h1:=hS.qz (x:=s.f0) (yF.2 ⟨s,hs,Int.le_refl _,t.2.1⟩);have h2:=hS.qz (x:=s.f1) (yF.2 ⟨s,hs,t.2.1,Int.le_refl _⟩);omega
  · have ev:thV p c core odd i=[]:=e1
    rw [ev] at hs;cases hs
theorem tQ {l:List Sp} (h:l≠[]):qP l=(kJ l,kT l,true):=by rw [acZ,if_neg h]
end
variable [Inhabited WT]
variable {p c:Int} {core:List (List Sp)} {odd:List Gn}
theorem ada (h:∀ l∈core,l.length≤4611686018427387904) (hl:core.length≤6000):∀ (d n:Nat),core.length - n=d→n≤core.length→(∀ j (hj:j<core.length),j<n→okC core[j]) →
    ((∀ l∈core,okC l)∧∀ (Y:Nat→Option Bool) (v:Bool),Ev Y v→Ev (fun k=>dw.l0 (some false) (Y k) core (core.length:Int) k (n:Int)) v)∨∀ (Y:Nat→Option Bool),Ev (fun k=>dw.l0 (some false) (Y k) core (core.length:Int) k (n:Int)) false:=by
  intro d;induction d with
  | zero =>
    intro n hd hn hi;refine Or.inl ⟨fun l hl => ?_,fun Y v hY => ?_⟩
    · obtain ⟨j,hj,rfl⟩:=List.getElem_of_mem hl
      exact hi j hj (by omega)
    · have c1:¬ (n:Int)<(core.length:Int):=by omega
      refine Ev.step (fun k=>rfl) ?_;simp only [dw.l0,dw.l0T,decide_eq_true_eq,c1,if_false];exact Ev.shift hY
  | succ d ih =>
    intro n hd hn hi;have hlt:n<core.length:=by omega
    have c1:(n:Int)<(core.length:Int):=by omega
    have c2:(0:Int)≤(n:Int):=by omega
    have hrd:=rdL core n hlt;have hw:wq ((n:Int)+1)=((n+1:Nat):Int):=by rw [iJ (by omega) (by omega)];simp
    have hh:∀ k,gD.f k core[n]=_:=fun k=>adD k core[n] (h _ (List.getElem_mem hlt));by_cases q:okC core[n]
    · have hi2:∀ j (hj:j<core.length),j<n+1→okC core[j]:=fun j hj hjn=>by
        rcases Nat.lt_or_ge j n with g | g
        · exact hi j hj g
        · have:j=n:=by omega
          subst this;exact q
      have go:∀ (Y:Nat→Option Bool) (v:Bool),Ev (fun k=>dw.l0 (some false) (Y (k+1)) core (core.length:Int) k ((n+1:Nat):Int)) v→Ev (fun k=>dw.l0 (some false) (Y k) core (core.length:Int) k (n:Int)) v:=fun Y v hY=>by
        refine Ev.step (fun k=>rfl) ?_;simp only [dw.l0,dw.l0T,decide_eq_true_eq,c1,c2,if_true,hrd,hw,hh,Option.bind_some];by_cases z:core[n]=[]
        · exact Ev.no (by simp [z,qP]) hY
        · have:=q z
          have e:=(tQ z);simp only [e];exact Ev.yes trivial (Ev.no (by omega) (Ev.no (by omega) hY))
      rcases ih (n+1) (by omega) (by omega) hi2 with ⟨a,b⟩ | b
      · exact Or.inl ⟨a,fun Y v hY=>go Y v (b (fun k=>Y (k+1)) v (Ev.shift hY))⟩
      · exact Or.inr fun Y=>go Y false (b (fun k=>Y (k+1)))
    · refine Or.inr fun Y => ?_
      have z:core[n]≠[]:=fun e=>q (fun f=>absurd e f);refine Ev.step (fun k=>rfl) ?_;simp only [dw.l0,dw.l0T,decide_eq_true_eq,c1,c2,if_true,hrd,hw,hh,Option.bind_some,tQ z];by_cases g:kJ core[n] < -200
      · exact Ev.yes g (Ev.now _)
      · exact Ev.no g (Ev.yes (by
          refine Classical.byContradiction fun g2=>q (fun _=>by omega)) (Ev.now _))
theorem adb (h:∀ g∈odd,g.f1.length≤4611686018427387904) (hl:odd.length≤6000):∀ (d n:Nat),odd.length - n=d→n≤odd.length→(∀ j (hj:j<odd.length),j<n→okO odd[j]) →
    ∃ b,Ev (fun k=>dw.l1 (some false) (some true) odd (odd.length:Int) k (n:Int)) b∧(b=true→∀ g∈odd,okO g):=by
  intro d;induction d with
  | zero =>
    intro n hd hn hi;refine ⟨true,?_,fun _ g hg => ?_⟩
    · have c1:¬ (n:Int)<(odd.length:Int):=by omega
      refine Ev.step (fun k=>rfl) ?_;simp only [dw.l1,dw.l1T,decide_eq_true_eq,c1,if_false];exact Ev.now _
    · obtain ⟨j,hj,rfl⟩:=List.getElem_of_mem hg
      exact hi j hj (by omega)
  | succ d ih =>
    intro n hd hn hi;have hlt:n<odd.length:=by omega
    have c1:(n:Int)<(odd.length:Int):=by omega
    have c2:(0:Int)≤(n:Int):=by omega
    have hrd:=rdG odd n hlt;have hw:wq ((n:Int)+1)=((n+1:Nat):Int):=by rw [iJ (by omega) (by omega)];simp
    have hh:∀ k,gD.f k odd[n].f1=_:=fun k=>adD k odd[n].f1 (h _ (List.getElem_mem hlt));by_cases q:okO odd[n]
    · have hi2:∀ j (hj:j<odd.length),j<n+1→okO odd[j]:=fun j hj hjn=>by
        rcases Nat.lt_or_ge j n with g | g
        · exact hi j hj g
        · have:j=n:=by omega
          subst this;exact q
      obtain ⟨b,b1,b2⟩:=ih (n+1) (by omega) (by omega) hi2;refine ⟨b,Ev.step (fun k=>rfl) ?_,b2⟩;simp only [dw.l1,dw.l1T,decide_eq_true_eq,c1,c2,if_true,hrd,hw,hh,Option.bind_some];have q1:=q.1;refine Ev.no (by omega) (Ev.no (by omega) ?_);by_cases z:odd[n].f1=[]
      · exact Ev.no (by simp [z,qP]) b1
      · have:=q.2 z
        simp only [tQ z];exact Ev.yes trivial (Ev.no (by omega) (Ev.no (by omega) b1))
    · refine ⟨false,Ev.step (fun k=>rfl) ?_,fun e=>by cases e⟩
      simp only [dw.l1,dw.l1T,decide_eq_true_eq,c1,c2,if_true,hrd,hw,hh,Option.bind_some];by_cases g1:odd[n].f0 < -100
      · exact Ev.yes g1 (Ev.now _)
      refine Ev.no g1 ?_;by_cases g2:odd[n].f0>100
      · exact Ev.yes g2 (Ev.now _)
      refine Ev.no g2 ?_;have z:odd[n].f1≠[]:=fun e=>q ⟨by omega,fun f=>absurd e f⟩;simp only [tQ z];refine Ev.yes trivial ?_;by_cases g:kJ odd[n].f1 < -3000
      · exact Ev.yes g (Ev.now _)
      · exact Ev.no g (Ev.yes (by
          refine Classical.byContradiction fun g2=>q ⟨by omega,fun _=>by omega⟩) (Ev.now _))
theorem abE (m:MF core odd):∃ b,Ev (fun k=>dw.f k p c core odd) b∧(b=true→mW p c core odd):=by
  unfold dw.f;obtain ⟨b,b1,b2⟩:=zP (p:=p) (c:=c) m;cases b with
  | false=>exact ⟨false,Ev.bind b1 (Ev.yes rfl (Ev.now _)),fun e=>by cases e⟩
  | true =>
    obtain ⟨f,g,lc,lo,sz⟩:=b2 rfl;by_cases p6:p>60
    · exact ⟨false,Ev.bind b1 (Ev.no (by simp) (Ev.yes (by simpa using p6) (Ev.now _))),fun e=>by cases e⟩
    have hC:∀ l∈core,l.length≤4611686018427387904:=fun l hl=>by have:=(f.s.hcore l hl).vE;omega
    have hO:∀ g∈odd,g.f1.length≤4611686018427387904:=fun g hg=>by have:=(f.s.hodd g hg).vE;omega
    obtain ⟨b,e1,e2⟩:=adb hO (by omega) odd.length 0 (by omega) (by omega) (fun j _ h=>by omega);rcases ada hC (by omega) core.length 0 (by omega) (by omega) (fun j _ h=>by omega) with ⟨a,q⟩ | q
    · exact ⟨b,Ev.bind b1 (Ev.no (by simp) (Ev.no (by simpa using p6) (q _ _ e1))),fun e=>⟨f,g,lc,lo,sz,by omega,a,e2 e⟩⟩
    · exact ⟨false,Ev.bind b1 (Ev.no (by simp) (Ev.no (by simpa using p6) (q _))),fun e=>by cases e⟩
theorem oP (l:List Sp) (hl:l.length≤4611686018427387904):Ev (fun k=>dM.f k l l) true:=by
  have key:∀ (d n:Nat),l.length - n=d→n≤l.length→Ev (fun k=>dM.l0 (some false) (some true) l l (l.length:Int) k (n:Int)) true:=by
    intro d;induction d with
    | zero =>
      intro n hd hn;have c1:¬ (n:Int)<(l.length:Int):=by omega
      refine Ev.step (fun k=>rfl) ?_;simp only [dM.l0,dM.l0T,decide_eq_true_eq,c1,if_false];exact Ev.now _
    | succ d ih =>
      intro n hd hn;have c1:(n:Int)<(l.length:Int):=by omega
      have c2:(0:Int)≤(n:Int):=by omega
      have hw:wq ((n:Int)+1)=((n+1:Nat):Int):=by rw [iJ (by omega) (by omega)];simp
      refine Ev.step (fun k=>rfl) ?_;simp only [dM.l0,dM.l0T,decide_eq_true_eq,c1,c2,if_true,hw];exact Ev.no (by simp) (ih (n+1) (by omega) (by omega))
  unfold dM.f;exact Ev.no (by simp) (key l.length 0 (by omega) (by omega))
theorem tT (h:SF p c core odd):Ev (fun k=>cZ.f k p c core odd p c core odd) true:=by
  have lc:=h.hl;have lo:=h.hlo;have k2:∀ (d n:Nat),odd.length - n=d→n≤odd.length→Ev (fun k=>cZ.l2 (some false) (some true) odd (odd.length:Int) odd k (n:Int)) true:=by
    intro d;induction d with
    | zero =>
      intro n hd hn;have c1:¬ (n:Int)<(odd.length:Int):=by omega
      refine Ev.step (fun k=>rfl) ?_;simp only [cZ.l2,cZ.l2T,decide_eq_true_eq,c1,if_false];exact Ev.now _
    | succ d ih =>
      intro n hd hn;have hlt:n<odd.length:=by omega
      have c1:(n:Int)<(odd.length:Int):=by omega
      have c2:(0:Int)≤(n:Int):=by omega
      have hrd:=rdG odd n hlt;have hw:wq ((n:Int)+1)=((n+1:Nat):Int):=by rw [iJ (by omega) (by omega)];simp
      refine Ev.step (fun k=>rfl) ?_;simp only [cZ.l2,cZ.l2T,decide_eq_true_eq,c1,c2,if_true,hrd,hw];exact Ev.no (by simp) (Ev.bind (oP odd[n].f1 (by have:=(h.hodd _ (List.getElem_mem hlt)).vE;omega)) (Ev.no (by simp) (ih (n+1) (by omega) (by omega))))
  have k1:∀ (d n:Nat),core.length - n=d→n≤core.length→∀ (Y:Nat→Option Bool),Ev Y true→Ev (fun k=>cZ.l1 (some false) (Y k) core (core.length:Int) core k (n:Int)) true:=by
    intro d;induction d with
    | zero =>
      intro n hd hn Y hY;have c1:¬ (n:Int)<(core.length:Int):=by omega
      refine Ev.step (fun k=>rfl) ?_;simp only [cZ.l1,cZ.l1T,decide_eq_true_eq,c1,if_false];exact Ev.shift hY
    | succ d ih =>
      intro n hd hn Y hY;have hlt:n<core.length:=by omega
      have c1:(n:Int)<(core.length:Int):=by omega
      have c2:(0:Int)≤(n:Int):=by omega
      have hrd:=rdL core n hlt;have hw:wq ((n:Int)+1)=((n+1:Nat):Int):=by rw [iJ (by omega) (by omega)];simp
      refine Ev.step (fun k=>rfl) ?_;simp only [cZ.l1,cZ.l1T,decide_eq_true_eq,c1,c2,if_true,hrd,hw];exact Ev.bind (oP core[n] (by have:=(h.hcore _ (List.getElem_mem hlt)).vE;omega)) (Ev.no (by simp) (ih (n+1) (by omega) (by omega) (fun k=>Y (k+1)) (Ev.shift hY)))
  unfold cZ.f;refine Ev.no (by simp) (Ev.no (by simp) (Ev.no (by simp) (Ev.no (by simp) ?_)));unfold cZ.l0;exact k1 core.length 0 (by omega) (by omega) _ (k2 odd.length 0 (by omega) (by omega))
end Go.Proofs.YtcomnjodjijcmaaGreat.Q
namespace Go.Proofs.YtcomnjodjijcmaaGreat.Q
set_option linter.unusedVariables false
set_option linter.unusedSimpArgs false
open Go.RowKit Go.Proofs.YtcomnjodjijcmaaGreatW.dz Go.Proofs.YtcomnjodjijcmaaGreatW.eD M R P
section
def rn (a b:Nat):Nat:=if a=0 then b else if b=0 then a else Nat.lcm a b
def rt (p:Int) (a:Nat) (p':Int) (b:Nat):Int:=if a=0 then p' else p*((rn a b / a:Nat):Int)
theorem ag7:∀ (b a:Nat),∃ K,∀ k,K≤k→P.fq.l0 k (a:Int) (b:Int)=some ((Nat.gcd a b:Nat):Int):=by
  intro b;induction b using Nat.strongRecOn with
  | ind b ih =>
    intro a;by_cases hb:b=0
    · subst hb
      refine ⟨1,fun k hk => ?_⟩;obtain ⟨k,rfl⟩:∃ j,k=j+1:=⟨k - 1,by omega⟩;simp [P.fq.l0]
    · obtain ⟨K,hK⟩:=ih (a % b) (Nat.mod_lt _ (by omega)) b
      refine ⟨K+1,fun k hk => ?_⟩;obtain ⟨k,rfl⟩:∃ j,k=j+1:=⟨k - 1,by omega⟩;have h0:¬ ((b:Int)=0):=by omega
      have e:Int.tmod (a:Int) (b:Int)=((a % b:Nat):Int):=rfl;simp only [P.fq.l0,if_neg h0,e];rw [hK k (by omega),Nat.gcd_comm a b,Nat.gcd_rec b a,Nat.gcd_comm b]
theorem lcm_div (a b:Nat):Nat.lcm a b=a / Nat.gcd a b*b:=by
  unfold Nat.lcm;rw [Nat.mul_comm a b,Nat.mul_div_assoc _ (Nat.gcd_dvd_left a b),Nat.mul_comm]
theorem yH {a b:Int} (h0:0≤a*b) (h1:a*b≤1099511627776):yj a b=(a*b,0):=by
  unfold yj;rw [if_pos (by omega)]
theorem afN (a b:Nat):Ev (fun k=>R.fq.f k (a:Int) (b:Int)) ((Nat.gcd a b:Nat):Int):=by
  obtain ⟨K,hK⟩:=ag7 b a;refine ⟨K,fun k hk => ?_⟩;show (if 0≤(a:Int)∧0≤(b:Int) then P.fq.l0 k (a:Int) (b:Int) else none)=_;rw [if_pos (by omega)];exact hK k hk
end
variable [Inhabited WT]
variable {p c p' c':Int} {core fu:List (List Sp)} {odd kr:List Gn}
theorem afO (a b:Nat) (ha:1≤a∧a≤6000) (hb:1≤b∧b≤6000):Ev (fun k=>iQ.f k (a:Int) (b:Int)) (((Nat.lcm a b:Nat):Int),0):=by
  have sa:∀ k,gy.f k (a:Int)=some (a:Int):=fun k=>by rw [yB k _ (by omega) (by omega),if_neg (by omega)]
  have sb:∀ k,gy.f k (b:Int)=some (b:Int):=fun k=>by rw [yB k _ (by omega) (by omega),if_neg (by omega)]
  have hg:1≤Nat.gcd a b:=Nat.gcd_pos_of_pos_left _ (by omega);have hle:a / Nat.gcd a b≤6000:=Nat.le_trans (Nat.div_le_self _ _) ha.2;have hpr:a / Nat.gcd a b*b≤6000*6000:=Nat.mul_le_mul hle hb.2;have hd:Int.tdiv (a:Int) ((Nat.gcd a b:Nat):Int)=((a / Nat.gcd a b:Nat):Int):=rfl;unfold iQ.f;simp only [sa,sb,Option.bind_some,decide_eq_true_eq];refine Ev.no (by omega) (Ev.no (by omega) (Ev.bind (afN a b) (Ev.no (by omega) ?_)));refine Ev.congr (f:=fun _=>some (((Nat.lcm a b:Nat):Int),(0:Int))) (fun k => ?_) (Ev.now _);have e1:wC .u64 (Int.tdiv (a:Int) ((Nat.gcd a b:Nat):Int))=((a / Nat.gcd a b:Nat):Int):=by
    rw [hd];generalize a / Nat.gcd a b=q at hle;exact tH (by omega) (by omega)
  have e2:((a / Nat.gcd a b:Nat):Int)*(b:Int)=((Nat.lcm a b:Nat):Int):=by rw [lcm_div];simp
  have e3:((Nat.lcm a b:Nat):Int)≤36000000:=by rw [lcm_div];omega
  simp only [e1];rw [abo k _ _ (by generalize a / Nat.gcd a b=q at hle;omega) (by omega),e2];have e4:((Nat.lcm a b:Nat):Int) / 18446744073709551616=0:=by omega
  have e5:((Nat.lcm a b:Nat):Int) % 18446744073709551616=((Nat.lcm a b:Nat):Int):=by omega
  simp only [e4,e5,Option.bind_some];rw [yC k _ _ (by omega),if_neg (by simp),if_neg (by simp),if_pos (by omega)];rfl
theorem vH (h:SF p c core odd) (h':SF p' c' fu kr) (hn:rn core.length fu.length≤6000) (ht:rt p core.length p' fu.length≤1099511627776) :
    Ev (fun k=>dR.f k p c core odd p' c' fu kr) (((rn core.length fu.length:Nat):Int),rt p core.length p' fu.length,0):=by
  have hc:=h.hc;have hc':=h'.hc;have l1:=h.hl;have l2:=h'.hl;have p0:=h.hp0;have p0':=h'.hp0;have z:=h.hz;have z':=h'.hz;subst hc;subst hc';unfold dR.f;simp only [decide_eq_true_eq];by_cases ha:core.length=0
  · have en:rn core.length fu.length=fu.length:=by unfold rn;rw [if_pos ha]
    have et:rt p core.length p' fu.length=p':=by unfold rt;rw [if_pos ha]
    rw [en,et];rw [en] at hn;rw [et] at ht;refine Ev.no (by omega) ?_;have hm:mx (core.length:Int) (fu.length:Int)=(fu.length:Int):=by unfold mx;split <;> omega
    unfold dR.l0;simp only [decide_eq_true_eq,hm];refine Ev.no (by omega) ?_;by_cases hb:fu.length=0
    · refine Ev.yes (by omega) ?_
      rw [hb,z'.1 (by omega)];exact Ev.now _
    · refine Ev.no (by omega) (Ev.yes (by omega) (Ev.no (by omega) ?_))
      have e1:wq (Int.tdiv (fu.length:Int) (fu.length:Int))=1:=by rw [Int.tdiv_self (by omega)];exact iJ (by omega) (by omega)
      rw [e1];refine Ev.bind (yD p' 1 (by omega) (by omega)) ?_;rw [yH (by omega) (by omega),Int.mul_one];exact Ev.no (by simp) (Ev.no (by omega) (Ev.now _))
  · have et:rt p core.length p' fu.length=p*((rn core.length fu.length / core.length:Nat):Int):=by unfold rt;rw [if_neg ha]
    have hnn:1≤rn core.length fu.length:=by
      unfold rn;rw [if_neg ha];split
      · omega
      · exact Nat.lcm_pos (by omega) (by omega)
    have fin:∀ n:Nat,n=rn core.length fu.length→Ev (fun k=>dR.l0 (fun _ _ _ _ _ _ _ _=>some ((0:Int),(0:Int),(3:Int))) (fun _ _ _ _ _ _ _ _=>some (0,0,0)) (fun _ _ _ _ _ _ _ _=>some (0,0,20)) (fun a b _ _ _ _ _ _ _ _=>some (a,b,0)) (fun _ _ _ _ _ _ _ _=>some (0,0,20)) (fun a b _ _ _ _ _ _ _ _=>some (a,b,0)) k (n:Int) p (core.length:Int) core odd p' (fu.length:Int) fu kr) (((rn core.length fu.length:Nat):Int),rt p core.length p' fu.length,0):=by
      rintro n rfl;unfold dR.l0;simp only [decide_eq_true_eq];refine Ev.no (by omega) (Ev.no (by omega) (Ev.no (by omega) (Ev.no (by omega) ?_)));have hq:rn core.length fu.length / core.length≤6000:=Nat.le_trans (Nat.div_le_self _ _) hn;have e1:wq (Int.tdiv ((rn core.length fu.length:Nat):Int) (core.length:Int))=((rn core.length fu.length / core.length:Nat):Int):=by
        rw [show Int.tdiv ((rn core.length fu.length:Nat):Int) (core.length:Int)=((rn core.length fu.length / core.length:Nat):Int) from rfl];generalize rn core.length fu.length / core.length=q at hq ⊢;exact iJ (by omega) (by omega)
      rw [e1];have hp1:=h.hp1;rw [et] at ht ⊢;generalize rn core.length fu.length / core.length=q at hq ht ⊢;refine Ev.bind (yD p _ (by omega) (by omega)) ?_;rw [yH (Int.mul_nonneg p0 (by omega)) ht];exact Ev.no (by simp) (Ev.no (by omega) (Ev.now _))
    refine Ev.yes (by omega) ?_;by_cases hb:fu.length=0
    · refine Ev.no (by omega) ?_
      have hm:mx (core.length:Int) (fu.length:Int)=(core.length:Int):=by unfold mx;split <;> omega
      rw [hm];exact fin core.length (by unfold rn;rw [if_neg ha,if_pos hb])
    · refine Ev.yes (by omega) (Ev.bind (afO core.length fu.length (by omega) (by omega)) ?_)
      exact fin _ (by unfold rn;rw [if_neg ha,if_neg hb])
theorem adE (h:SF p c core odd) (i:Int) (hi : -6000≤i∧i≤6000) (hp:p≤100000000) (hm:∀ s∈bT p c core i,-1099511627776≤s.f0∧s.f1≤1099511627776):Ev (fun k=>gJ.f k p c core odd i) (bT p c core i,0):=by
  have hc:=h.hc;have p0:=h.hp0;unfold gJ.f;simp only [decide_eq_true_eq];by_cases hz:c=0
  · refine Ev.yes hz ?_
    have:bT p c core i=[]:=by unfold bT fO;rw [if_pos hz];rfl
    rw [this];exact Ev.now _
  · have c0:0<c:=by omega
    have hl:=h.hl;have q1:=Int.emod_nonneg i hz;have q2:=Int.emod_lt_of_pos i c0;have hd:=ag6 hi c0;have hmu : -6000*100000000≤i / c*p∧i / c*p≤6000*100000000:=by
      constructor
      · have h1 : -6000*p≤i / c*p:=Int.mul_le_mul_of_nonneg_right hd.1 p0
        omega
      · have h1:i / c*p≤6000*p:=Int.mul_le_mul_of_nonneg_right hd.2 p0
        omega
    have hmv:yj (i / c) p=(i / c*p,0):=by unfold yj;rw [if_pos (by omega)]
    have hj:(i % c).toNat<core.length:=by omega
    have hrd:gL core (i % c)=fO c core i:=by
      unfold fO;rw [if_neg hz]
    refine Ev.no hz (Ev.bind (o8 i c (by omega) (by omega)) (Ev.bind (yD (i / c) p (by omega) (by omega)) (Ev.yes q1 (Ev.yes (show i % c<(core.length:Int) by omega) ?_))));simp only [hrd,hmv];by_cases hn:fO c core i=[]
    · refine Ev.yes (by rw [hn];rfl) ?_
      have:bT p c core i=[]:=by unfold bT;rw [hn];rfl
      rw [this];exact Ev.now _
    · refine Ev.no (by have:=List.length_pos_iff.2 hn;omega) (Ev.no (by simp) (Ev.no (by simp) (Ev.yes q1 (Ev.yes (show i % c<(core.length:Int) by omega) ?_))))
      have hS:SL (-1099511627776) 1099511627776 (fO c core i):=h.hcore _ (h.jq i hz);have hok:(fO c core i).all (okM (i / c*p))=true:=List.all_eq_true.2 fun s hs=>qy.2 (by
        have:=hm (eO (i / c*p) s) (List.mem_map_of_mem hs);have q:=SL.ticks hS hs;simp only [eO] at this;omega)
      have hmo:lU (i / c*p) (fO c core i)=(bT p c core i,0):=by unfold lU;rw [if_pos hok];rfl
      refine Ev.bind (abj _ _ hS (by omega)) ?_;rw [hmo];exact Ev.now _
theorem abF (h:SF p c core odd):∃ b,Ev (fun k=>eu.f k p c core odd) b∧(b=true↔∃ l∈core,l≠[]):=by
  have hl0:=h.hl;unfold eu.f;have key:∀ (rest pre:List (List Sp)),core=pre++rest→(∀ l∈pre,l=[])→∃ b,Ev (fun k=>eu.l0 (fun y=>some (decide (y≥0))) (some false) core (core.length:Int) k (pre.length:Int)) b∧(b=true↔∃ l∈core,l≠[]):=by
    intro rest;induction rest with
    | nil =>
      intro pre hp he;refine ⟨false,Ev.step (f:=fun _=>some false) (fun k => ?_) (Ev.now _),?_⟩
      · have c1:¬ (pre.length:Int)<(core.length:Int):=by rw [hp];simp
        simp only [eu.l0,eu.l0T,decide_eq_true_eq,c1,if_false]
      · simp only [List.append_nil] at hp
        subst hp;exact ⟨fun e=>(by cases e),fun ⟨l,h1,h2⟩=>absurd (he l h1) h2⟩
    | cons l r ih =>
      intro pre hp he;have hlen:pre.length+1≤core.length:=by rw [hp];simp
      have hrd:gL core (pre.length:Int)=l:=by rw [hp];simp [gL]
      have c1:(pre.length:Int)<(core.length:Int):=by omega
      have c2:(0:Int)≤(pre.length:Int):=by omega
      have hw:=nx c1 c2 (by omega);by_cases hz:l=[]
      · obtain ⟨x,x1,x2⟩:=ih (pre++[l]) (by rw [hp];simp) (fun y hy=>by rcases List.mem_append.1 hy with hy | hy;exact he y hy;simp at hy;rw [hy];exact hz)
        refine ⟨x,Ev.step (fun k=>rfl) ?_,x2⟩;simp only [eu.l0,eu.l0T,decide_eq_true_eq,c1,c2,if_true,hrd,hw,iB.f,hz,Option.bind_some];rw [len1 _ l];exact x1
      · refine ⟨true,Ev.step (f:=fun _=>some true) (fun k => ?_) (Ev.now _),?_⟩
        · have:((l.length:Int)>0):=by have:=List.length_pos_iff.2 hz;omega
          simp only [eu.l0,eu.l0T,decide_eq_true_eq,c1,c2,if_true,hrd,iB.f,this,Option.bind_some];simp
        · exact ⟨fun _=>⟨l,by rw [hp];simp,hz⟩,fun _=>rfl⟩
  exact key core [] rfl (by simp)
end Go.Proofs.YtcomnjodjijcmaaGreat.Q
namespace Go.Proofs.YtcomnjodjijcmaaGreat.Q
set_option linter.unusedVariables false
set_option linter.unusedSimpArgs false
open Go.RowKit Go.Proofs.YtcomnjodjijcmaaGreatW.dz Go.Proofs.YtcomnjodjijcmaaGreatW.eD M R P
section
abbrev Fm:=P.S25
def al (x y:List Sp):Prop:=x≠[]→y≠[]→x=y
theorem abG {x y:List Sp} (h:al x y):al y x:=fun a b=>(h b a).symm
def DU (x y:List Sp):List Sp:=if x=[] then y else x
def DC (x y:List Sp):List Sp:=if y=[] then [] else x
def DL (x y:List Sp):List Sp:=if y=[] then x else []
def bF (A:Fm) (i:Int):List Sp:=bT A.f0 A.f1 A.f2 i
def vF (A:Fm) (i:Int):List Sp × Int:=jm A.f0 A.f1 A.f2 A.f3 i
def nF (A B:Fm):Nat:=rn A.f2.length B.f2.length
def tF (A B:Fm):Int:=rt A.f0 A.f2.length B.f0 B.f2.length
def mG (A B:Fm):Prop:=A.f2=[]∨B.f2=[]∨tF A B=tF B A
def iK (A B:Fm):List Int:=iN (jU ((A.f3++B.f3).map fun g=>g.f0))
def sfF (A:Fm):Prop:=SF A.f0 A.f1 A.f2 A.f3
structure OfH (A B:Fm):Prop where
  sa:sfF A
  sb:sfF B
  ga:A.f2≠[]→∃ l∈A.f2,l≠[]
  gb:B.f2≠[]→∃ l∈B.f2,l≠[]
  n:nF A B≤6000
  t:tF A B≤1099511627776
  t':tF B A≤1099511627776
  pa:A.f0≤100000000
  pb:B.f0≤100000000
  ma:∀ i,0≤i→i<(nF A B:Int)→∀ s∈bF A i,-1099511627776≤s.f0∧s.f1≤1099511627776
  mb:∀ i,0≤i→i<(nF A B:Int)→∀ s∈bF B i,-1099511627776≤s.f0∧s.f1≤1099511627776
  o:A.f3.length+B.f3.length≤6000
theorem aeN (a b:Nat):rn a b=rn b a:=by
  unfold rn;by_cases h:a=0
  · by_cases g:b=0
    · rw [if_pos h,if_pos g,h,g]
    · rw [if_pos h,if_neg g,if_pos h]
  · by_cases g:b=0
    · rw [if_neg h,if_pos g,if_pos g]
    · rw [if_neg h,if_neg g,if_neg g,if_neg h,Nat.lcm_comm]
theorem oC (A B:Fm):nF A B=nF B A:=aeN _ _
theorem mX (A B:Fm):(iK A B).length≤A.f3.length+B.f3.length:=by
  have h1:(iK A B).length≤(jU ((A.f3++B.f3).map fun g=>g.f0)).length:=Lib.compact_length_le _;have h2:(jU ((A.f3++B.f3).map fun g=>g.f0)).length=A.f3.length+B.f3.length:=by simp [jU]
  omega
theorem nP {A:Fm} (h:sfF A) (i:Int):(bF A i).length≤4611686018427387904:=by
  unfold bF bT;rw [List.length_map];by_cases hc:A.f1=0
  · unfold fO;rw [if_pos hc];simp
  · have:=(h.hcore _ (h.jq i hc)).vE
    omega
theorem rdP (l:List P2) (j:Nat) (hj:j<l.length):gP l (j:Int)=l[j]:=by simp [gP,hj]
theorem rdI (l:List Int) (j:Nat) (hj:j<l.length):gI l (j:Int)=l[j]:=by simp [gI,hj]
theorem afP (k:Nat) (x y:List Sp):gQ.f k x y=some (DU x y):=by
  unfold gQ.f DU;simp only [decide_eq_true_eq];by_cases h:x=[]
  · rw [if_pos h,if_neg (by rw [h];simp)]
  · rw [if_neg h,if_pos (by have:=List.length_pos_iff.2 h;omega)]
theorem afQ (k:Nat) (x y:List Sp):gU.f k x y=some (DC x y):=by
  unfold gU.f DC;simp only [decide_eq_true_eq];by_cases h:y=[]
  · rw [if_pos h,if_neg (by rw [h];simp)]
  · rw [if_neg h,if_pos (by have:=List.length_pos_iff.2 h;omega)]
theorem afR (k:Nat) (x y:List Sp):gV.f k x y=some (DL x y):=by
  unfold gV.f DL;simp only [decide_eq_true_eq];by_cases h:y=[]
  · rw [if_pos h,if_neg (by rw [h];simp)]
  · rw [if_neg h,if_pos (by have:=List.length_pos_iff.2 h;omega)]
end
variable [Inhabited WT]
theorem tV {A B:Fm} (H:OfH A B):∃ r,Ev (fun k=>dL.f k A.f0 A.f1 A.f2 A.f3 B.f0 B.f1 B.f2 B.f3) r∧(mG A B→r=((List.range (nF A B)).map (fun (i:Nat)=>(⟨bF A (i:Int),bF B (i:Int)⟩:P2)),tF A B,0))∧(¬ mG A B→r=([],0,51)):=by
  obtain ⟨ga,a1,a2⟩:=abF H.sa;obtain ⟨gb,b1,b2⟩:=abF H.sb;have ra:=vH H.sa H.sb H.n H.t;have rb:=vH H.sb H.sa (by have:=H.n;rw [oC] at this;exact this) H.t';have za:A.f2≠[]↔ga=true:=⟨fun h=>a2.2 (H.ga h),fun e h=>by obtain ⟨l,hl,_⟩:=a2.1 e;rw [h] at hl;cases hl⟩;have zb:B.f2≠[]↔gb=true:=⟨fun h=>b2.2 (H.gb h),fun e h=>by obtain ⟨l,hl,_⟩:=b2.1 e;rw [h] at hl;cases hl⟩;have hn:=H.n;have key:∀ (d j:Nat),nF A B - j=d→j≤nF A B→Ev (fun k=>dL.l1 (fun _=>some (([]:List P2),(0:Int),(20:Int))) (fun y=>some (y,tF A B,0)) (nF A B:Int) A.f0 A.f1 A.f2 A.f3 B.f0 B.f1 B.f2 B.f3 k ((List.range j).map (fun (i:Nat)=>(⟨bF A (i:Int),bF B (i:Int)⟩:P2))) (j:Int)) ((List.range (nF A B)).map (fun (i:Nat)=>(⟨bF A (i:Int),bF B (i:Int)⟩:P2)),tF A B,0):=by
    intro d;induction d with
    | zero =>
      intro j hd hj;obtain rfl:j=nF A B:=by omega
      refine Ev.step (f:=fun _=>some _) (fun k => ?_) (Ev.now _);have c1:¬ (nF A B:Int)<(nF A B:Int):=by omega
      simp only [dL.l1,dL.l1T,decide_eq_true_eq,c1,if_false]
    | succ d ih =>
      intro j hd hj;have c1:(j:Int)<(nF A B:Int):=by omega
      have hw:=nx c1 (by omega) (by omega);refine Ev.step (fun k=>rfl) ?_;simp only [dL.l1,dL.l1T,decide_eq_true_eq,c1,if_true,hw];have hlen:((List.range j).map (fun (i:Nat)=>(⟨bF A (i:Int),bF B (i:Int)⟩:P2))).length+1≤2932031007402:=by simp;omega
      refine Ev.bind (adE H.sa (j:Int) (by omega) H.pa (H.ma _ (by omega) c1)) (Ev.bind (adE H.sb (j:Int) (by omega) H.pb (H.mb _ (by omega) c1)) (Ev.no (by simp) (Ev.no (by simp) ?_)));refine Ev.yes hlen ?_;have:=ih (j+1) (by omega) (by omega);rw [List.range_succ,List.map_append] at this;exact this
  have aa:=key (nF A B) 0 (by omega) (by omega);simp only [List.range_zero,List.map_nil,Int.natCast_zero] at aa;unfold dL.f;by_cases ha:A.f2=[]
  · have hga:ga=false:=by
      cases ga
      · rfl
      · exact absurd ha (za.2 rfl)
    subst hga;refine ⟨_,Ev.bind ra (Ev.no (by simp) (Ev.bind a1 (Ev.no (by simp) ?_))),fun _=>rfl,fun hf=>absurd (.inl ha) hf⟩;exact aa
  · have hga:ga=true:=za.1 ha
    subst hga;by_cases hb:B.f2=[]
    · have hgb:gb=false:=by
        cases gb
        · rfl
        · exact absurd hb (zb.2 rfl)
      subst hgb;refine ⟨_,Ev.bind ra (Ev.no (by simp) (Ev.bind a1 (Ev.yes rfl (Ev.bind b1 (Ev.no (by simp) ?_))))),fun _=>rfl,fun hf=>absurd (.inr (.inl hb)) hf⟩;exact aa
    · have hgb:gb=true:=zb.1 hb
      subst hgb;by_cases hf:tF B A=tF A B
      · refine ⟨_,Ev.bind ra (Ev.no (by simp) (Ev.bind a1 (Ev.yes rfl (Ev.bind b1 (Ev.yes rfl (Ev.bind rb (Ev.no (by simp only [Bool.not_eq_true',decide_eq_false_iff_not];exact fun e=>e hf) ?_))))))),fun _=>rfl,fun hf'=>absurd (.inr (.inr hf.symm)) hf'⟩
        exact aa
      · refine ⟨_,Ev.bind ra (Ev.no (by simp) (Ev.bind a1 (Ev.yes rfl (Ev.bind b1 (Ev.yes rfl (Ev.bind rb (Ev.yes (by simp only [Bool.not_eq_true',decide_eq_false_iff_not];exact hf) (Ev.now _)))))))),fun hf' => ?_,fun _=>rfl⟩
        rcases hf' with e | e | e
        · exact absurd e ha
        · exact absurd e hb
        · exact absurd e.symm hf
theorem l8 (l:List P2) (hl:l.length≤6000) (hm:∀ q∈l,q.f0.length≤4611686018427387904):∃ b,Ev (fun k=>dS.f k l) b∧(b=true↔∀ q∈l,al q.f0 q.f1):=by
  unfold dS.f;have one:∀ q∈l,∃ b,Ev (fun k=>gK.f k q.f0 q.f1) b∧(b=false↔al q.f0 q.f1):=fun q hq=>by
    unfold gK.f;simp only [decide_eq_true_eq];by_cases h1:q.f0=[]
    · refine ⟨false,Ev.no (by rw [h1];simp) (Ev.now _),fun _ a=>absurd h1 a,fun _=>rfl⟩
    · by_cases h2:q.f1=[]
      · refine ⟨false,Ev.yes (by have:=List.length_pos_iff.2 h1;omega) (Ev.no (by rw [h2];simp) (Ev.now _)),fun _ _ a=>absurd h2 a,fun _=>rfl⟩
      · obtain ⟨r,r1,r2⟩:=abw q.f0 q.f1 (hm q hq)
        refine ⟨!r,Ev.yes (by have:=List.length_pos_iff.2 h1;omega) (Ev.yes (by have:=List.length_pos_iff.2 h2;omega) (Ev.bind r1 (Ev.now _))),?_⟩;cases r with
        | true=>exact ⟨fun _ _ _=>r2.1 rfl,fun _=>rfl⟩
        | false=>exact ⟨fun e=>(by cases e),fun a=>absurd (r2.2 (a h1 h2)) (by simp)⟩
  have key:∀ (rest pre:List P2),l=pre++rest→(∀ q∈pre,al q.f0 q.f1)→∃ b,Ev (fun k=>dS.l0 (fun y=>some (!decide (y≥0))) (some true) l (l.length:Int) k (pre.length:Int)) b∧(b=true↔∀ q∈l,al q.f0 q.f1):=by
    intro rest;induction rest with
    | nil =>
      intro pre hp he;refine ⟨true,Ev.step (f:=fun _=>some true) (fun k => ?_) (Ev.now _),?_⟩
      · have c1:¬ (pre.length:Int)<(l.length:Int):=by rw [hp];simp
        simp only [dS.l0,dS.l0T,decide_eq_true_eq,c1,if_false]
      · simp only [List.append_nil] at hp
        subst hp;exact ⟨fun _=>he,fun _=>rfl⟩
    | cons q r ih =>
      intro pre hp he;have hlen:pre.length+1≤l.length:=by rw [hp];simp
      have hrd:gP l (pre.length:Int)=q:=by rw [hp];simp [gP]
      have hq:q∈l:=by rw [hp];simp
      have c1:(pre.length:Int)<(l.length:Int):=by omega
      have c2:(0:Int)≤(pre.length:Int):=by omega
      have hw:=nx c1 c2 (by omega);obtain ⟨b,b1,b2⟩:=one q hq;cases b with
      | false =>
        obtain ⟨x,x1,x2⟩:=ih (pre++[q]) (by rw [hp];simp) (fun y hy=>by
          rcases List.mem_append.1 hy with hy | hy
          · exact he y hy
          · simp at hy;rw [hy];exact b2.1 rfl)
        refine ⟨x,Ev.step (fun k=>rfl) ?_,x2⟩;simp only [dS.l0,dS.l0T,decide_eq_true_eq,c1,c2,if_true,hrd,hw];refine Ev.bind b1 (Ev.no (by simp) ?_);rw [len1 _ q];exact x1
      | true =>
        refine ⟨false,Ev.step (fun k=>rfl) ?_,fun e=>(by cases e),fun e=>absurd (b2.2 (e q hq)) (by simp)⟩;simp only [dS.l0,dS.l0T,decide_eq_true_eq,c1,c2,if_true,hrd,hw];refine Ev.bind b1 (Ev.yes rfl ?_);exact Ev.congr (f:=fun _=>some false) (fun k=>by simp) (Ev.now _)
  exact key l [] rfl (by simp)
theorem abH (x y:List Gn) (h:x.length+y.length≤6000):Ev (fun k=>cO.f k [x,y]) (x++y):=by
  refine ⟨3,fun k hk => ?_⟩;obtain ⟨k,rfl⟩:∃ j,k=j+3:=⟨k - 3,by omega⟩;have w0:wq (x.length:Int)=(x.length:Int):=iJ (by omega) (by omega);have w1:wq ((x.length:Int)+(y.length:Int))=(x.length:Int)+(y.length:Int):=iJ (by omega) (by omega);have w2:wq 1=1:=iJ (by omega) (by omega);have w3:wq 2=2:=iJ (by omega) (by omega);have n1:¬ ((x.length:Int)<0):=by omega
  have n2:¬ ((x.length:Int)+(y.length:Int)<0):=by omega
  have m1:x.length≤4398046511104:=by omega
  have m2:x.length+y.length≤4398046511104:=by omega
  have g0:(0:Int)≤(x.length:Int)+(y.length:Int):=by omega
  have g1:(x.length:Int)+(y.length:Int)≤8796093022208:=by omega
  simp [cO.f,cO.l0,cO.l0T,cO.l1,cO.l1T,dW.f,gM,w0,w1,w2,w3,n1,n2,m1,m2,g0,g1]
theorem wS {A B:Fm} (H:OfH A B):Ev (fun k=>dO.f k A.f0 A.f1 A.f2 A.f3 B.f0 B.f1 B.f2 B.f3) (iK A B,(iK A B).map fun i=>(⟨(vF A i).1,(vF B i).1⟩:P2)):=by
  have ho:=H.o;have hil:=mX A B;unfold dO.f;refine Ev.bind (abH A.f3 B.f3 ho) ?_;have hl:(A.f3++B.f3).length≤6000:=by simp;omega
  have k1:∀ (d j:Nat),(iK A B).length - j=d→j≤(iK A B).length→Ev (fun k=>dO.l1 (fun y9=>some (iK A B,y9)) (iK A B) ((iK A B).length:Int) A.f0 A.f1 A.f2 A.f3 B.f0 B.f1 B.f2 B.f3 k (((iK A B).take j).map fun i=>(⟨(vF A i).1,(vF B i).1⟩:P2)) (j:Int)) (iK A B,(iK A B).map fun i=>(⟨(vF A i).1,(vF B i).1⟩:P2)):=by
    intro d;induction d with
    | zero =>
      intro j hd hj;obtain rfl:j=(iK A B).length:=by omega
      refine Ev.step (f:=fun _=>some _) (fun k => ?_) (Ev.now _);have c1:¬ ((iK A B).length:Int)<((iK A B).length:Int):=by omega
      simp only [dO.l1,dO.l1T,decide_eq_true_eq,c1,if_false,List.take_length]
    | succ d ih =>
      intro j hd hj;have hj':j<(iK A B).length:=by omega
      have c1:(j:Int)<((iK A B).length:Int):=by omega
      have c2:(0:Int)≤(j:Int):=by omega
      have hw:=nx c1 c2 (by omega);refine Ev.step (fun k=>rfl) ?_;simp only [dO.l1,dO.l1T,decide_eq_true_eq,c1,c2,if_true,hw,rdI _ j hj'];have hlen:(((iK A B).take j).map fun i=>(⟨(vF A i).1,(vF B i).1⟩:P2)).length+1≤2932031007402:=by simp;omega
      refine Ev.bind (jK H.sa _) (Ev.bind (jK H.sb _) ?_);refine Ev.yes hlen ?_;have:=ih (j+1) (by omega) (by omega);rw [List.take_succ_eq_append_getElem hj',List.map_append] at this;exact this
  have k0:∀ (d j:Nat),(A.f3++B.f3).length - j=d→j≤(A.f3++B.f3).length→∀ (X:Nat→List Int→Option (List Int × List P2)) (v:List Int × List P2),Ev (fun k=>X k ((A.f3++B.f3).map fun g=>g.f0)) v→Ev (fun k=>dO.l0 (X k) (A.f3++B.f3) ((A.f3++B.f3).length:Int) k (((A.f3++B.f3).take j).map fun g=>g.f0) (j:Int)) v:=by
    intro d;induction d with
    | zero =>
      intro j hd hj X v hX;obtain rfl:j=(A.f3++B.f3).length:=by omega
      refine Ev.step (f:=fun k=>X (k+1) ((A.f3++B.f3).map fun g=>g.f0)) (fun k => ?_) (Ev.shift hX);have c1:¬ ((A.f3++B.f3).length:Int)<((A.f3++B.f3).length:Int):=by omega
      simp only [dO.l0,dO.l0T,decide_eq_true_eq,c1,if_false,List.take_length]
    | succ d ih =>
      intro j hd hj X v hX;have hj':j<(A.f3++B.f3).length:=by omega
      have c1:(j:Int)<((A.f3++B.f3).length:Int):=by omega
      have c2:(0:Int)≤(j:Int):=by omega
      have hw:=nx c1 c2 (by omega);refine Ev.step (fun k=>rfl) ?_;simp only [dO.l0,dO.l0T,decide_eq_true_eq,c1,c2,if_true,hw,rdG _ j hj'];have hlen:(((A.f3++B.f3).take j).map fun g=>g.f0).length+1≤17592186044416:=by simp;omega
      refine Ev.yes hlen ?_;have:=ih (j+1) (by omega) (by omega) (fun k=>X (k+1)) v (Ev.shift hX);rw [List.take_succ_eq_append_getElem hj',List.map_append] at this;exact this
  have fin:=k0 (A.f3++B.f3).length 0 (by omega) (by omega) (fun k y2=>(if (decide (y2.length≤8796093022208))=true then (if (decide ((jU y2).length≤8796093022208))=true then (dO.l1 (fun y9=>(some ((iN (jU y2)),y9))) (iN (jU y2)) ((iN (jU y2)).length:Int) A.f0 A.f1 A.f2 A.f3 B.f0 B.f1 B.f2 B.f3 k [] 0) else none) else none)) (iK A B,(iK A B).map fun i=>(⟨(vF A i).1,(vF B i).1⟩:P2)) (by
    refine Ev.yes (by simp;omega) (Ev.yes (by simp [jU];omega) ?_);have:=k1 _ 0 rfl (by omega);exact this)
  exact fin
end Go.Proofs.YtcomnjodjijcmaaGreat.Q
