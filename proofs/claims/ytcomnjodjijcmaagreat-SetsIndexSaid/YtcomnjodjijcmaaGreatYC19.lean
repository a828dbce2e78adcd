/- Lemmas for laws of chapter 7: what the functions that they reach compute. No condition of its own. -/
import Derived.Test.YtcomnjodjijcmaaGreatYC18
namespace Go.Proofs.YtcomnjodjijcmaaGreat.Q
set_option linter.unusedVariables false
set_option linter.unusedSimpArgs false
open Go.RowKit Go.Proofs.YtcomnjodjijcmaaGreatW.dB Go.Proofs.YtcomnjodjijcmaaGreatW.eO M R P
section
variable {p c:Int} {core:List (List Sp)} {odd:List Gn}
def Stp (B:Int→List Sp) (a:Nat) (n:Int):Prop:=∀ i,B (i+a)=(B i).map (fK n)
theorem wN (n:Int) {l m:List Sp} (h:l.map (fK n)=m.map (fK n)):l=m:=by
  have:=congrArg (fun x=>x.map (fK (-n))) h;simpa only [aav] using this
theorem Stp.sub {B:Int→List Sp} {a b:Nat} {n m:Int} (h:a≤b) (s:Stp B a n) (t:Stp B b m):Stp B (b - a) (m - n):=fun i=>by
  have e1:=s (i+((b - a:Nat):Int));have e2:i+((b - a:Nat):Int)+(a:Int)=i+b:=by omega
  rw [e2,t i] at e1;refine wN n ?_;rw [← e1,jG];congr 2;omega
theorem qy (h:SF p c core odd) (h0:0<core.length):Stp (bT p c core) core.length p:=fun i=>by
  have:=uQ h h0 (Nat.le_refl _) (ace (p:=p) h0).tn i;rw [Nat.div_self h0] at this;simpa using this
theorem afm (h:SF p c core odd) {d:Nat} {n:Int} (hd0:1≤d) (hd:d≤core.length) (s:Stp (bT p c core) d n):xW p core d n:=by
  intro i hi;have Bi:=qg h 0 i hi;rw [Int.zero_mul,Int.zero_add,Int.zero_mul,jR] at Bi;have st:=s (i:Int);rw [Bi] at st;refine ⟨fun g => ?_,fun g g2 => ?_⟩
  · have B2:=qg h 0 (i+d) g
    rw [Int.zero_mul,Int.zero_add,Int.zero_mul,jR] at B2;rw [← B2,← st];congr 1
  · have B2:=qg h 1 _ g2
    have hc:=h.hc;have e:(1:Int)*c+((i+d - core.length:Nat):Int)=(i:Int)+d:=by omega
    rw [e,st,Int.one_mul] at B2;refine wN p ?_;rw [← B2,jG];congr 2;omega
theorem uS {B:Int→List Sp} {a:Nat} {n:Int} (s:Stp B a n) (i:Int):∀ q:Nat,B (i+q*a)=(B i).map (fK (q*n)):=by
  intro q;induction q with
  | zero=>simp [jR]
  | succ q ih =>
    have e:i+((q+1:Nat):Int)*a=(i+q*a)+a:=by rw [Int.natCast_add,Int.add_mul];simp;omega
    rw [e,s,ih,jG];congr 2;rw [Int.natCast_add,Int.add_mul];simp
theorem acg {l:List Sp} (hl:l≠[]) {n m:Int} (h:l.map (fK n)=l.map (fK m)):n=m:=by
  cases l with
  | nil=>exact absurd rfl hl
  | cons s t =>
    have:=(List.cons.inj h).1;have:=congrArg (fun x:Sp=>x.f0) this;simp only [fK] at this;omega
theorem agA (h:SF p c core odd) (h0:0<core.length) {i0:Int} (hne:bT p c core i0≠[]) {d:Nat} {n:Int} (hd0:1≤d) (hdv:d ∣ core.length) (s:Stp (bT p c core) d n):Rep p core d:=by
  obtain ⟨m,hm⟩:=hdv;have e1:=uS s i0 m;have e2:=qy h h0 i0;have e3:i0+(m:Int)*d=i0+(core.length:Int):=by rw [hm,Int.natCast_mul,Int.mul_comm]
  rw [e3,e2] at e1;have e4:=acg hne e1;have e5:core.length / d=m:=by rw [hm];exact Nat.mul_div_cancel_left _ (by omega)
  have m0:(m:Int)≠0:=by
    intro e;have:m=0:=by omega
    rw [this] at hm;omega
  refine ⟨hd0,⟨m,hm⟩,by rw [e5];exact ⟨n,e4⟩,?_⟩;have e6:p / (((core.length / d:Nat):Int))=n:=by rw [e5,e4];exact Int.mul_ediv_cancel_left _ m0
  rw [e6];exact afm h hd0 (Nat.le_of_dvd h0 ⟨m,hm⟩) s
end
end Go.Proofs.YtcomnjodjijcmaaGreat.Q
namespace Go.Proofs.YtcomnjodjijcmaaGreat.Q
set_option linter.unusedVariables false
set_option linter.unusedSimpArgs false
open Go.RowKit Go.Proofs.YtcomnjodjijcmaaGreatW.dB Go.Proofs.YtcomnjodjijcmaaGreatW.eO M R P
section
variable {p c:Int} {core:List (List Sp)} {odd:List Gn}
theorem ach {B:Int→List Sp} {a:Nat} {n:Int} (s:Stp B a n) (i q:Int):B (i+q*a)=(B i).map (fK (q*n)):=by
  rcases Int.le_total 0 q with g | g
  · obtain ⟨k,rfl⟩:∃ k:Nat,q=(k:Int):=⟨q.toNat,by omega⟩
    exact uS s i k
  · obtain ⟨k,rfl⟩:∃ k:Nat,q = -(k:Int):=⟨(-q).toNat,by omega⟩
    have:=uS s (i + -(k:Int)*a) k;have e:i + -(k:Int)*a+(k:Int)*a=i:=by rw [Int.neg_mul];omega
    rw [e] at this;rw [this,jG];have e2:(k:Int)*n + -(k:Int)*n=0:=by rw [Int.neg_mul];omega
    rw [e2,jR]
theorem afn {B:Int→List Sp} {a:Nat} {n:Int} (s:Stp B a n) (m:Nat):Stp B (m*a) (m*n):=fun i=>by
  have:=uS s i m;rw [Int.natCast_mul];exact this
end
end Go.Proofs.YtcomnjodjijcmaaGreat.Q
namespace Go.Proofs.YtcomnjodjijcmaaGreat.Q
set_option linter.unusedVariables false
set_option linter.unusedSimpArgs false
open Go.RowKit Go.Proofs.YtcomnjodjijcmaaGreatW.dB Go.Proofs.YtcomnjodjijcmaaGreatW.eO M R P
section
variable {p c:Int} {core:List (List Sp)} {odd:List Gn}
end
end Go.Proofs.YtcomnjodjijcmaaGreat.Q
namespace Go.Proofs.YtcomnjodjijcmaaGreat.Q
set_option linter.unusedVariables false
set_option linter.unusedSimpArgs false
open Go.RowKit Go.Proofs.YtcomnjodjijcmaaGreatW.dB Go.Proofs.YtcomnjodjijcmaaGreatW.eO M R P
section
variable {p c:Int} {core:List (List Sp)} {odd:List Gn}
structure Can (p c:Int) (core:List (List Sp)) (odd:List Gn):Prop where
  s:SF p c core odd
  mn:∀ d,d<core.length→¬ Rep p core d
  nb:core≠[]→¬ ∀ l∈core,l=[]
  np:∀ g∈odd,kH p c core g=false
theorem agB {i:Int} (h:core=[]):bT p c core i=[]:=by
  subst h;unfold bT gK;split <;> simp
theorem wS.can (h:SF p c core odd) {r:P.S25} (s:wS p core odd r):Can r.f0 r.f1 r.f2 r.f3:=by
  have aa:∀ i,bT r.f0 r.f1 r.f2 i=bT p c core i:=fun i=>by rw [← oK,← oK];exact s.c.ticks h i
  have np:∀ g∈r.f3,kH r.f0 r.f1 r.f2 g=false:=fun g hg=>by
    rw [s.o] at hg;have:=(List.mem_filter.1 hg).2;simpa using this
  obtain ⟨sb,_⟩:=s.c.sf h;have sb':SF r.f0 r.f1 r.f2 []:=sb;by_cases hb:∀ l∈core,l=[]
  · have e:=s.c.e hb
    have e2:r.f2=[]:=congrArg (fun x:P.S25=>x.f2) e;exact ⟨s.sf h,fun d hd=>by rw [e2] at hd;simp at hd,fun hn=>absurd e2 hn,np⟩
  · obtain ⟨d,q,mn,e⟩:=s.c.n hb
    have hlen:0<core.length:=by
      cases core with
      | nil=>exact absurd (fun l hl=>by cases hl) hb
      | cons a t=>simp
    have hdl:d≤core.length:=Nat.le_of_dvd hlen q.d1;have e2:r.f2=core.take d:=congrArg (fun x:P.S25=>x.f2) e;have el:r.f2.length=d:=by rw [e2,List.length_take];omega
    obtain ⟨i0,hi0⟩:∃ i0,bT p c core i0≠[]:=by
      refine Classical.byContradiction fun hno=>hb fun l hl => ?_;obtain ⟨j,hj,rfl⟩:=List.getElem_of_mem hl;refine Classical.byContradiction fun hn=>hno ⟨0*c+j,?_⟩;rw [qg h 0 j hj];simpa using hn
    refine ⟨s.sf h,fun d' hd' hr => ?_,fun _ hall => ?_,np⟩
    · rw [el] at hd'
      have st:Stp (bT p c core) d' (r.f0 / ((r.f2.length / d':Nat):Int)):=fun i=>by
        have:=uQ sb' hr.d0 (by omega) hr.tn i;rw [aa,aa] at this;exact this
      have dv:d' ∣ core.length:=by
        have:=hr.d1;rw [el] at this;exact Nat.dvd_trans this q.d1
      exact mn d' hd' (agA h hlen hi0 hr.d0 dv st)
    · refine hi0 ?_
      rw [← aa];unfold bT;have:gK r.f1 r.f2 i0=[]:=by
        refine Classical.byContradiction fun hn => ?_;obtain ⟨_,_,j,hj,_,e⟩:=uK sb' hn;rw [e] at hn;exact hn (hall _ (List.getElem_mem hj))
      rw [this];rfl
end
end Go.Proofs.YtcomnjodjijcmaaGreat.Q
namespace Go.Proofs.YtcomnjodjijcmaaGreat.Q
set_option linter.unusedVariables false
set_option linter.unusedSimpArgs false
open Go.RowKit Go.Proofs.YtcomnjodjijcmaaGreatW.dB Go.Proofs.YtcomnjodjijcmaaGreatW.eO M R P
section
variable {p c:Int} {core:List (List Sp)} {odd:List Gn}
theorem Bes.to {p' c':Int} {gU:List (List Sp)} {kQ:List Gn} (e:∀ i,gT p' c' gU kQ i=gT p c core odd i) {i:Int} (b:Bes p c core odd i):Bes p' c' gU kQ i:=by
  have v:∀ k,jW p' c' gU kQ k=jW p c core odd k:=fun k=>ny (e k);have n:∀ k,fs c' gU kQ k≠[]→fs c core odd k≠[]:=fun k h=>(l9 (p:=p)).2 (by rw [← e k];exact (l9 (p:=p')).1 h);have z:∀ k,fs c' gU kQ k=[]→fs c core odd k=[]:=fun k h=>by
    refine Classical.byContradiction fun h2 => ?_;have:=(l9 (p:=p)).1 h2;rw [← e k] at this;exact (l9 (p:=p')).2 this h
  have g:∀ j k,gap c' gU kQ j k→gap c core odd j k:=fun j k h m a d=>z m (h m a d);refine ⟨by rw [v];exact b.he,fun k a1 a2 a3 a4 => ?_,fun k a1 a2 a3 a4 => ?_,fun j k a1 a2 a3 a4 a5 a6 a7 a8 => ?_⟩
  · rw [v,v];exact b.up k a1 a2 (n k a3) (g _ _ a4)
  · rw [v,v];exact b.dn k a1 a2 (n k a3) (g _ _ a4)
  · rw [v,v];exact b.ov j k a1 a2 a3 a4 (n j a5) (n k a6) (g _ _ a7) (g _ _ a8)
theorem wS.gr (h:GR p c core odd) {r:P.S25} (s:wS p core odd r):GR r.f0 r.f1 r.f2 r.f3 :=
  ⟨s.sf h.s,s.c.tf h.s h.t,fun g hg=>Bes.to (fun i=>s.adK h.s i) (h.b g (by rw [s.o] at hg;exact (List.mem_filter.1 hg).1))⟩
end
end Go.Proofs.YtcomnjodjijcmaaGreat.Q
namespace Go.Proofs.YtcomnjodjijcmaaGreat.Q
set_option linter.unusedVariables false
set_option linter.unusedSimpArgs false
open Go.RowKit Go.Proofs.YtcomnjodjijcmaaGreatW.dB Go.Proofs.YtcomnjodjijcmaaGreatW.eO M R P
section
variable {p c:Int} {core:List (List Sp)} {odd:List Gn}
theorem Can.fix (a:Can p c core odd) {r:P.S25} (s:wS p core odd r):r=⟨p,c,core,odd⟩:=by
  have hc:=a.s.hc;have e0:(⟨r.f0,r.f1,r.f2,[]⟩:P.S25)=⟨p,c,core,[]⟩:=by
    by_cases hb:∀ l∈core,l=[]
    · have n1:core=[]:=by
        refine Classical.byContradiction fun hn=>a.nb hn hb
      have c1:c=0:=by rw [hc,n1];rfl
      have p1:=a.s.hz.1 c1;rw [s.c.e hb,n1,c1,p1]
    · obtain ⟨d,q,_,e⟩:=s.c.n hb
      have hlen:0<core.length:=by
        cases core with
        | nil=>exact absurd (fun l hl=>by cases hl) hb
        | cons a t=>simp
      have hdl:d≤core.length:=Nat.le_of_dvd hlen q.d1;have hd:d=core.length:=by
        rcases Nat.lt_or_eq_of_le hdl with g | g
        · exact absurd q (a.mn d g)
        · exact g
      rw [e,hd,Nat.div_self hlen,List.take_length,← hc];simp
  have e1:=congrArg (fun x:P.S25=>x.f0) e0;have e2:=congrArg (fun x:P.S25=>x.f1) e0;have e3:=congrArg (fun x:P.S25=>x.f2) e0;simp only at e1 e2 e3;have ho:=s.o;rw [e1,e2,e3] at ho;have e4:odd.filter (fun g => !kH p c core g)=odd:=List.filter_eq_self.2 (fun g hg=>by rw [a.np g hg];rfl);rw [e4] at ho;cases r with
  | mk r0 r1 r2 r3 =>
    simp only at e1 e2 e3 ho;rw [e1,e2,e3,ho]
end
end Go.Proofs.YtcomnjodjijcmaaGreat.Q
namespace Go.Proofs.YtcomnjodjijcmaaGreat.Q
set_option linter.unusedVariables false
set_option linter.unusedSimpArgs false
open Go.RowKit Go.Proofs.YtcomnjodjijcmaaGreatW.dB Go.Proofs.YtcomnjodjijcmaaGreatW.eO M R P
section
variable {p c:Int} {core:List (List Sp)} {odd:List Gn}
def okC (l:List Sp):Prop:=l≠[] → -200≤lF l∧lQ l≤200
def okO (g:Gn):Prop:=(-100≤g.f0∧g.f0≤100)∧(g.f1≠[] → -3000≤lF g.f1∧lQ g.f1≤3000)
structure nG (p c:Int) (core:List (List Sp)) (odd:List Gn):Prop where
  ok:FOK p c core odd
  gr:GR p c core odd
  lc:core.length≤12
  lo:odd.length≤8
  sz:lN core odd≤60
  p60:p≤60
  hc:∀ l∈core,okC l
  ho:∀ g∈odd,okO g
theorem ah1 {i c:Int} (hi : -6000≤i∧i≤6000) (hc:0<c) : -6000≤i / c∧i / c≤6000:=by
  constructor
  · refine (Int.le_ediv_iff_mul_le hc).2 ?_
    have:(-6000:Int)*c ≤ -6000*1:=Int.mul_le_mul_of_nonpos_left (by omega) (by omega);omega
  · rcases Int.lt_or_le i 0 with h | h
    · have:=Int.ediv_neg_of_neg_of_pos h hc;omega
    · have:=Int.ediv_le_self c h;omega
theorem nG.bd (w:nG p c core odd) {i:Int} (hi : -6000≤i∧i≤6000) (hn:fs c core odd i≠[]) : -400000≤gLo p c core odd i∧gHi p c core odd i≤400000:=by
  unfold gLo gHi;cases ho:jA odd i with
  | some l =>
    obtain ⟨g,g1,g2,g3⟩:=jT ho;have hf:fs c core odd i=g.f1:=by unfold fs;rw [ho];exact g3.symm
    have hb:fb p c odd i=0:=by unfold fb;rw [ho]
    rw [hf] at hn;have:=(w.ho g g1).2 hn;rw [hf,hb];omega
  | none =>
    have hf:fs c core odd i=gK c core i:=by unfold fs;rw [ho]
    have hb:fb p c odd i=i / c*p:=by unfold fb;rw [ho]
    rw [hf] at hn;obtain ⟨c0,p0,j,hj,j1,j2⟩:=uK w.ok.s hn;rw [hf,hb,j2];rw [j2] at hn;have:=w.hc _ (List.getElem_mem hj) hn;have q:=ah1 hi c0;have p6:=w.p60;have h1:i / c*p≤6000*p:=Int.mul_le_mul_of_nonneg_right q.2 (by omega);have h2 : -6000*p≤i / c*p:=Int.mul_le_mul_of_nonneg_right q.1 (by omega);omega
theorem nG.ex (w:nG p c core odd) {i:Int} (hi : -6000≤i∧i≤6000) (hn:fs c core odd i≠[]):Ex p c core odd i:=by
  have:=w.bd hi hn;exact ⟨by unfold inR;omega,hn,by omega,by omega⟩
theorem nG.th (w:nG p c core odd) {i:Int} (hi : -6000≤i∧i≤6000):∀ s∈thV p c core odd i,-1000000≤s.f0∧s.f1≤1000000:=by
  intro s hs;rcases aaA w.ok.s i with ⟨e,e1,e2⟩ | ⟨e,e1⟩
  · have ev:thV p c core odd i=gT p c core odd i:=by unfold thV;rw [e1]
    rw [ev] at hs;have hS:=w.ok.s.ahY e;have b:=w.bd hi e.n;obtain ⟨g1,g2,g3⟩:=lC (p:=p) e.n;have t:=SL.ticks hS hs;have h1:=hS.rH (x:=s.f0) (zG.2 ⟨s,hs,Int.le_refl _,t.2.1⟩);have h2:=hS.rH (x:=s.f1) (zG.2 ⟨s,hs,t.2.1,Int.le_refl _⟩);omega
  · have ev:thV p c core odd i=[]:=e1
    rw [ev] at hs;cases hs
theorem uT {l:List Sp} (h:l≠[]):su l=(lF l,lQ l,true):=by rw [adC,if_neg h]
end
variable [Inhabited WT]
variable {p c:Int} {core:List (List Sp)} {odd:List Gn}
theorem adL (h:∀ l∈core,l.length≤4611686018427387904) (hl:core.length≤6000):∀ (d n:Nat),core.length - n=d→n≤core.length→(∀ j (hj:j<core.length),j<n→okC core[j]) →
    ((∀ l∈core,okC l)∧∀ (Y:Nat→Option Bool) (v:Bool),Ev Y v→Ev (fun k=>dz.l0 (some false) (Y k) core (core.length:Int) k (n:Int)) v)∨∀ (Y:Nat→Option Bool),Ev (fun k=>dz.l0 (some false) (Y k) core (core.length:Int) k (n:Int)) false:=by
  intro d;induction d with
  | zero =>
    intro n hd hn hi;refine Or.inl ⟨fun l hl => ?_,fun Y v hY => ?_⟩
    · obtain ⟨j,hj,rfl⟩:=List.getElem_of_mem hl
      exact hi j hj (by omega)
    · have c1:¬ (n:Int)<(core.length:Int):=by omega
      refine Ev.step (fun k=>rfl) ?_;simp only [dz.l0,dz.l0T,decide_eq_true_eq,c1,if_false];exact Ev.shift hY
  | succ d ih =>
    intro n hd hn hi;have hlt:n<core.length:=by omega
    have c1:(n:Int)<(core.length:Int):=by omega
    have c2:(0:Int)≤(n:Int):=by omega
    have hrd:=rdL core n hlt;have hw:wq ((n:Int)+1)=((n+1:Nat):Int):=by rw [jf (by omega) (by omega)];simp
    have hh:∀ k,iG.f k core[n]=_:=fun k=>aeg k core[n] (h _ (List.getElem_mem hlt));by_cases q:okC core[n]
    · have hi2:∀ j (hj:j<core.length),j<n+1→okC core[j]:=fun j hj hjn=>by
        rcases Nat.lt_or_ge j n with g | g
        · exact hi j hj g
        · have:j=n:=by omega
          subst this;exact q
      have go:∀ (Y:Nat→Option Bool) (v:Bool),Ev (fun k=>dz.l0 (some false) (Y (k+1)) core (core.length:Int) k ((n+1:Nat):Int)) v→Ev (fun k=>dz.l0 (some false) (Y k) core (core.length:Int) k (n:Int)) v:=fun Y v hY=>by
        refine Ev.step (fun k=>rfl) ?_;simp only [dz.l0,dz.l0T,decide_eq_true_eq,c1,c2,if_true,hrd,hw,hh,Option.bind_some];by_cases z:core[n]=[]
        · exact Ev.no (by simp [z,su]) hY
        · have:=q z
          have e:=(uT z);simp only [e];exact Ev.yes trivial (Ev.no (by omega) (Ev.no (by omega) hY))
      rcases ih (n+1) (by omega) (by omega) hi2 with ⟨a,b⟩ | b
      · exact Or.inl ⟨a,fun Y v hY=>go Y v (b (fun k=>Y (k+1)) v (Ev.shift hY))⟩
      · exact Or.inr fun Y=>go Y false (b (fun k=>Y (k+1)))
    · refine Or.inr fun Y => ?_
      have z:core[n]≠[]:=fun e=>q (fun f=>absurd e f);refine Ev.step (fun k=>rfl) ?_;simp only [dz.l0,dz.l0T,decide_eq_true_eq,c1,c2,if_true,hrd,hw,hh,Option.bind_some,uT z];by_cases g:lF core[n] < -200
      · exact Ev.yes g (Ev.now _)
      · exact Ev.no g (Ev.yes (by
          refine Classical.byContradiction fun g2=>q (fun _=>by omega)) (Ev.now _))
theorem adM (h:∀ g∈odd,g.f1.length≤4611686018427387904) (hl:odd.length≤6000):∀ (d n:Nat),odd.length - n=d→n≤odd.length→(∀ j (hj:j<odd.length),j<n→okO odd[j]) →
    ∃ b,Ev (fun k=>dz.l1 (some false) (some true) odd (odd.length:Int) k (n:Int)) b∧(b=true→∀ g∈odd,okO g):=by
  intro d;induction d with
  | zero =>
    intro n hd hn hi;refine ⟨true,?_,fun _ g hg => ?_⟩
    · have c1:¬ (n:Int)<(odd.length:Int):=by omega
      refine Ev.step (fun k=>rfl) ?_;simp only [dz.l1,dz.l1T,decide_eq_true_eq,c1,if_false];exact Ev.now _
    · obtain ⟨j,hj,rfl⟩:=List.getElem_of_mem hg
      exact hi j hj (by omega)
  | succ d ih =>
    intro n hd hn hi;have hlt:n<odd.length:=by omega
    have c1:(n:Int)<(odd.length:Int):=by omega
    have c2:(0:Int)≤(n:Int):=by omega
    have hrd:=rdG odd n hlt;have hw:wq ((n:Int)+1)=((n+1:Nat):Int):=by rw [jf (by omega) (by omega)];simp
    have hh:∀ k,iG.f k odd[n].f1=_:=fun k=>aeg k odd[n].f1 (h _ (List.getElem_mem hlt));by_cases q:okO odd[n]
    · have hi2:∀ j (hj:j<odd.length),j<n+1→okO odd[j]:=fun j hj hjn=>by
        rcases Nat.lt_or_ge j n with g | g
        · exact hi j hj g
        · have:j=n:=by omega
          subst this;exact q
      obtain ⟨b,b1,b2⟩:=ih (n+1) (by omega) (by omega) hi2;refine ⟨b,Ev.step (fun k=>rfl) ?_,b2⟩;simp only [dz.l1,dz.l1T,decide_eq_true_eq,c1,c2,if_true,hrd,hw,hh,Option.bind_some];have q1:=q.1;refine Ev.no (by omega) (Ev.no (by omega) ?_);by_cases z:odd[n].f1=[]
      · exact Ev.no (by simp [z,su]) b1
      · have:=q.2 z
        simp only [uT z];exact Ev.yes trivial (Ev.no (by omega) (Ev.no (by omega) b1))
    · refine ⟨false,Ev.step (fun k=>rfl) ?_,fun e=>by cases e⟩
      simp only [dz.l1,dz.l1T,decide_eq_true_eq,c1,c2,if_true,hrd,hw,hh,Option.bind_some];by_cases g1:odd[n].f0 < -100
      · exact Ev.yes g1 (Ev.now _)
      refine Ev.no g1 ?_;by_cases g2:odd[n].f0>100
      · exact Ev.yes g2 (Ev.now _)
      refine Ev.no g2 ?_;have z:odd[n].f1≠[]:=fun e=>q ⟨by omega,fun f=>absurd e f⟩;simp only [uT z];refine Ev.yes trivial ?_;by_cases g:lF odd[n].f1 < -3000
      · exact Ev.yes g (Ev.now _)
      · exact Ev.no g (Ev.yes (by
          refine Classical.byContradiction fun g2=>q ⟨by omega,fun _=>by omega⟩) (Ev.now _))
theorem afo (m:MF core odd):∃ b,Ev (fun k=>dz.f k p c core odd) b∧(b=true→nG p c core odd):=by
  unfold dz.f;obtain ⟨b,b1,b2⟩:=aaB (p:=p) (c:=c) m;cases b with
  | false=>exact ⟨false,Ev.bind b1 (Ev.yes rfl (Ev.now _)),fun e=>by cases e⟩
  | true =>
    obtain ⟨f,g,lc,lo,sz⟩:=b2 rfl;by_cases p6:p>60
    · exact ⟨false,Ev.bind b1 (Ev.no (by simp) (Ev.yes (by simpa using p6) (Ev.now _))),fun e=>by cases e⟩
    have hC:∀ l∈core,l.length≤4611686018427387904:=fun l hl=>by have:=(f.s.hcore l hl).uH;omega
    have hO:∀ g∈odd,g.f1.length≤4611686018427387904:=fun g hg=>by have:=(f.s.hodd g hg).uH;omega
    obtain ⟨b,e1,e2⟩:=adM hO (by omega) odd.length 0 (by omega) (by omega) (fun j _ h=>by omega);rcases adL hC (by omega) core.length 0 (by omega) (by omega) (fun j _ h=>by omega) with ⟨a,q⟩ | q
    · exact ⟨b,Ev.bind b1 (Ev.no (by simp) (Ev.no (by simpa using p6) (q _ _ e1))),fun e=>⟨f,g,lc,lo,sz,by omega,a,e2 e⟩⟩
    · exact ⟨false,Ev.bind b1 (Ev.no (by simp) (Ev.no (by simpa using p6) (q _))),fun e=>by cases e⟩
end Go.Proofs.YtcomnjodjijcmaaGreat.Q
namespace Go.Proofs.YtcomnjodjijcmaaGreat.Q
set_option linter.unusedVariables false
set_option linter.unusedSimpArgs false
open Go.RowKit Go.Proofs.YtcomnjodjijcmaaGreatW.dB Go.Proofs.YtcomnjodjijcmaaGreatW.eO M R P
section
def rn (a b:Nat):Nat:=if a=0 then b else if b=0 then a else Nat.lcm a b
def rt (p:Int) (a:Nat) (p':Int) (b:Nat):Int:=if a=0 then p' else p*((rn a b / a:Nat):Int)
theorem ah2:∀ (b a:Nat),∃ K,∀ k,K≤k→P.gq.l0 k (a:Int) (b:Int)=some ((Nat.gcd a b:Nat):Int):=by
  intro b;induction b using Nat.strongRecOn with
  | ind b ih =>
    intro a;by_cases hb:b=0
    · subst hb
      refine ⟨1,fun k hk => ?_⟩;obtain ⟨k,rfl⟩:∃ j,k=j+1:=⟨k - 1,by omega⟩;simp [P.gq.l0]
    · obtain ⟨K,hK⟩:=ih (a % b) (Nat.mod_lt _ (by omega)) b
      refine ⟨K+1,fun k hk => ?_⟩;obtain ⟨k,rfl⟩:∃ j,k=j+1:=⟨k - 1,by omega⟩;have h0:¬ ((b:Int)=0):=by omega
      have e:Int.tmod (a:Int) (b:Int)=((a % b:Nat):Int):=rfl;simp only [P.gq.l0,if_neg h0,e];rw [hK k (by omega),Nat.gcd_comm a b,Nat.gcd_rec b a,Nat.gcd_comm b]
theorem lcm_div (a b:Nat):Nat.lcm a b=a / Nat.gcd a b*b:=by
  unfold Nat.lcm;rw [Nat.mul_comm a b,Nat.mul_div_assoc _ (Nat.gcd_dvd_left a b),Nat.mul_comm]
theorem zH {a b:Int} (h0:0≤a*b) (h1:a*b≤1099511627776):zq a b=(a*b,0):=by
  unfold zq;rw [if_pos (by omega)]
theorem agC (a b:Nat):Ev (fun k=>R.gq.f k (a:Int) (b:Int)) ((Nat.gcd a b:Nat):Int):=by
  obtain ⟨K,hK⟩:=ah2 b a;refine ⟨K,fun k hk => ?_⟩;show (if 0≤(a:Int)∧0≤(b:Int) then P.gq.l0 k (a:Int) (b:Int) else none)=_;rw [if_pos (by omega)];exact hK k hk
end
variable [Inhabited WT]
variable {p c p' c':Int} {core gU:List (List Sp)} {odd kQ:List Gn}
theorem agD (a b:Nat) (ha:1≤a∧a≤6000) (hb:1≤b∧b≤6000):Ev (fun k=>jD.f k (a:Int) (b:Int)) (((Nat.lcm a b:Nat):Int),0):=by
  have sa:∀ k,iF.f k (a:Int)=some (a:Int):=fun k=>by rw [zB k _ (by omega) (by omega),if_neg (by omega)]
  have sb:∀ k,iF.f k (b:Int)=some (b:Int):=fun k=>by rw [zB k _ (by omega) (by omega),if_neg (by omega)]
  have hg:1≤Nat.gcd a b:=Nat.gcd_pos_of_pos_left _ (by omega);have hle:a / Nat.gcd a b≤6000:=Nat.le_trans (Nat.div_le_self _ _) ha.2;have hpr:a / Nat.gcd a b*b≤6000*6000:=Nat.mul_le_mul hle hb.2;have hd:Int.tdiv (a:Int) ((Nat.gcd a b:Nat):Int)=((a / Nat.gcd a b:Nat):Int):=rfl;unfold jD.f;simp only [sa,sb,Option.bind_some,decide_eq_true_eq];refine Ev.no (by omega) (Ev.no (by omega) (Ev.bind (agC a b) (Ev.no (by omega) ?_)));refine Ev.congr (f:=fun _=>some (((Nat.lcm a b:Nat):Int),(0:Int))) (fun k => ?_) (Ev.now _);have e1:wC .u64 (Int.tdiv (a:Int) ((Nat.gcd a b:Nat):Int))=((a / Nat.gcd a b:Nat):Int):=by
    rw [hd];generalize a / Nat.gcd a b=q at hle;exact uN (by omega) (by omega)
  have e2:((a / Nat.gcd a b:Nat):Int)*(b:Int)=((Nat.lcm a b:Nat):Int):=by rw [lcm_div];simp
  have e3:((Nat.lcm a b:Nat):Int)≤36000000:=by rw [lcm_div];omega
  simp only [e1];rw [ab3 k _ _ (by generalize a / Nat.gcd a b=q at hle;omega) (by omega),e2];have e4:((Nat.lcm a b:Nat):Int) / 18446744073709551616=0:=by omega
  have e5:((Nat.lcm a b:Nat):Int) % 18446744073709551616=((Nat.lcm a b:Nat):Int):=by omega
  simp only [e4,e5,Option.bind_some];rw [zC k _ _ (by omega),if_neg (by simp),if_neg (by simp),if_pos (by omega)];rfl
theorem wO (h:SF p c core odd) (h':SF p' c' gU kQ) (hn:rn core.length gU.length≤6000) (ht:rt p core.length p' gU.length≤1099511627776) :
    Ev (fun k=>dY.f k p c core odd p' c' gU kQ) (((rn core.length gU.length:Nat):Int),rt p core.length p' gU.length,0):=by
  have hc:=h.hc;have hc':=h'.hc;have l1:=h.hl;have l2:=h'.hl;have p0:=h.hp0;have p0':=h'.hp0;have z:=h.hz;have z':=h'.hz;subst hc;subst hc';unfold dY.f;simp only [decide_eq_true_eq];by_cases ha:core.length=0
  · have en:rn core.length gU.length=gU.length:=by unfold rn;rw [if_pos ha]
    have et:rt p core.length p' gU.length=p':=by unfold rt;rw [if_pos ha]
    rw [en,et];rw [en] at hn;rw [et] at ht;refine Ev.no (by omega) ?_;have hm:mx (core.length:Int) (gU.length:Int)=(gU.length:Int):=by unfold mx;split <;> omega
    unfold dY.l0;simp only [decide_eq_true_eq,hm];refine Ev.no (by omega) ?_;by_cases hb:gU.length=0
    · refine Ev.yes (by omega) ?_
      rw [hb,z'.1 (by omega)];exact Ev.now _
    · refine Ev.no (by omega) (Ev.yes (by omega) (Ev.no (by omega) ?_))
      have e1:wq (Int.tdiv (gU.length:Int) (gU.length:Int))=1:=by rw [Int.tdiv_self (by omega)];exact jf (by omega) (by omega)
      rw [e1];refine Ev.bind (zD p' 1 (by omega) (by omega)) ?_;rw [zH (by omega) (by omega),Int.mul_one];exact Ev.no (by simp) (Ev.no (by omega) (Ev.now _))
  · have et:rt p core.length p' gU.length=p*((rn core.length gU.length / core.length:Nat):Int):=by unfold rt;rw [if_neg ha]
    have hnn:1≤rn core.length gU.length:=by
      unfold rn;rw [if_neg ha];split
      · omega
      · exact Nat.lcm_pos (by omega) (by omega)
    have fin:∀ n:Nat,n=rn core.length gU.length→Ev (fun k=>dY.l0 (fun _ _ _ _ _ _ _ _=>some ((0:Int),(0:Int),(3:Int))) (fun _ _ _ _ _ _ _ _=>some (0,0,0)) (fun _ _ _ _ _ _ _ _=>some (0,0,20)) (fun a b _ _ _ _ _ _ _ _=>some (a,b,0)) (fun _ _ _ _ _ _ _ _=>some (0,0,20)) (fun a b _ _ _ _ _ _ _ _=>some (a,b,0)) k (n:Int) p (core.length:Int) core odd p' (gU.length:Int) gU kQ) (((rn core.length gU.length:Nat):Int),rt p core.length p' gU.length,0):=by
      rintro n rfl;unfold dY.l0;simp only [decide_eq_true_eq];refine Ev.no (by omega) (Ev.no (by omega) (Ev.no (by omega) (Ev.no (by omega) ?_)));have hq:rn core.length gU.length / core.length≤6000:=Nat.le_trans (Nat.div_le_self _ _) hn;have e1:wq (Int.tdiv ((rn core.length gU.length:Nat):Int) (core.length:Int))=((rn core.length gU.length / core.length:Nat):Int):=by
        rw [show Int.tdiv ((rn core.length gU.length:Nat):Int) (core.length:Int)=((rn core.length gU.length / core.length:Nat):Int) from rfl];generalize rn core.length gU.length / core.length=q at hq ⊢;exact jf (by omega) (by omega)
      rw [e1];have hp1:=h.hp1;rw [et] at ht ⊢;generalize rn core.length gU.length / core.length=q at hq ht ⊢;refine Ev.bind (zD p _ (by omega) (by omega)) ?_;rw [zH (Int.mul_nonneg p0 (by omega)) ht];exact Ev.no (by simp) (Ev.no (by omega) (Ev.now _))
    refine Ev.yes (by omega) ?_;by_cases hb:gU.length=0
    · refine Ev.no (by omega) ?_
      have hm:mx (core.length:Int) (gU.length:Int)=(core.length:Int):=by unfold mx;split <;> omega
      rw [hm];exact fin core.length (by unfold rn;rw [if_neg ha,if_pos hb])
    · refine Ev.yes (by omega) (Ev.bind (agD core.length gU.length (by omega) (by omega)) ?_)
      exact fin _ (by unfold rn;rw [if_neg ha,if_neg hb])
theorem aei (h:SF p c core odd) (i:Int) (hi : -6000≤i∧i≤6000) (hp:p≤100000000) (hm:∀ s∈bT p c core i,-1099511627776≤s.f0∧s.f1≤1099511627776):Ev (fun k=>iw.f k p c core odd i) (bT p c core i,0):=by
  have hc:=h.hc;have p0:=h.hp0;unfold iw.f;simp only [decide_eq_true_eq];by_cases hz:c=0
  · refine Ev.yes hz ?_
    have:bT p c core i=[]:=by unfold bT gK;rw [if_pos hz];rfl
    rw [this];exact Ev.now _
  · have c0:0<c:=by omega
    have hl:=h.hl;have q1:=Int.emod_nonneg i hz;have q2:=Int.emod_lt_of_pos i c0;have hd:=ah1 hi c0;have hmu : -6000*100000000≤i / c*p∧i / c*p≤6000*100000000:=by
      constructor
      · have h1 : -6000*p≤i / c*p:=Int.mul_le_mul_of_nonneg_right hd.1 p0
        omega
      · have h1:i / c*p≤6000*p:=Int.mul_le_mul_of_nonneg_right hd.2 p0
        omega
    have hmv:zq (i / c) p=(i / c*p,0):=by unfold zq;rw [if_pos (by omega)]
    have hj:(i % c).toNat<core.length:=by omega
    have hrd:gL core (i % c)=gK c core i:=by
      unfold gK;rw [if_neg hz]
    refine Ev.no hz (Ev.bind (qw i c (by omega) (by omega)) (Ev.bind (zD (i / c) p (by omega) (by omega)) (Ev.yes q1 (Ev.yes (show i % c<(core.length:Int) by omega) ?_))));simp only [hrd,hmv];by_cases hn:gK c core i=[]
    · refine Ev.yes (by rw [hn];rfl) ?_
      have:bT p c core i=[]:=by unfold bT;rw [hn];rfl
      rw [this];exact Ev.now _
    · refine Ev.no (by have:=List.length_pos_iff.2 hn;omega) (Ev.no (by simp) (Ev.no (by simp) (Ev.yes q1 (Ev.yes (show i % c<(core.length:Int) by omega) ?_))))
      have hS:SL (-1099511627776) 1099511627776 (gK c core i):=h.hcore _ (h.jU i hz);have hok:(gK c core i).all (okM (i / c*p))=true:=List.all_eq_true.2 fun s hs=>rG.2 (by
        have:=hm (fK (i / c*p) s) (List.mem_map_of_mem hs);have q:=SL.ticks hS hs;simp only [fK] at this;omega)
      have hmo:mM (i / c*p) (gK c core i)=(bT p c core i,0):=by unfold mM;rw [if_pos hok];rfl
      refine Ev.bind (abY _ _ hS (by omega)) ?_;rw [hmo];exact Ev.now _
theorem aci (h:SF p c core odd):∃ b,Ev (fun k=>eX.f k p c core odd) b∧(b=true↔∃ l∈core,l≠[]):=by
  have hl0:=h.hl;unfold eX.f;have key:∀ (rest pre:List (List Sp)),core=pre++rest→(∀ l∈pre,l=[])→∃ b,Ev (fun k=>eX.l0 (fun y=>some (decide (y≥0))) (some false) core (core.length:Int) k (pre.length:Int)) b∧(b=true↔∃ l∈core,l≠[]):=by
    intro rest;induction rest with
    | nil =>
      intro pre hp he;refine ⟨false,Ev.step (f:=fun _=>some false) (fun k => ?_) (Ev.now _),?_⟩
      · have c1:¬ (pre.length:Int)<(core.length:Int):=by rw [hp];simp
        simp only [eX.l0,eX.l0T,decide_eq_true_eq,c1,if_false]
      · simp only [List.append_nil] at hp
        subst hp;exact ⟨fun e=>(by cases e),fun ⟨l,h1,h2⟩=>absurd (he l h1) h2⟩
    | cons l r ih =>
      intro pre hp he;have hlen:pre.length+1≤core.length:=by rw [hp];simp
      have hrd:gL core (pre.length:Int)=l:=by rw [hp];simp [gL]
      have c1:(pre.length:Int)<(core.length:Int):=by omega
      have c2:(0:Int)≤(pre.length:Int):=by omega
      have hw:=nx c1 c2 (by omega);by_cases hz:l=[]
      · obtain ⟨x,x1,x2⟩:=ih (pre++[l]) (by rw [hp];simp) (fun y hy=>by rcases List.mem_append.1 hy with hy | hy;exact he y hy;simp at hy;rw [hy];exact hz)
        refine ⟨x,Ev.step (fun k=>rfl) ?_,x2⟩;simp only [eX.l0,eX.l0T,decide_eq_true_eq,c1,c2,if_true,hrd,hw,iX.f,hz,Option.bind_some];rw [len1 _ l];exact x1
      · refine ⟨true,Ev.step (f:=fun _=>some true) (fun k => ?_) (Ev.now _),?_⟩
        · have:((l.length:Int)>0):=by have:=List.length_pos_iff.2 hz;omega
          simp only [eX.l0,eX.l0T,decide_eq_true_eq,c1,c2,if_true,hrd,iX.f,this,Option.bind_some];simp
        · exact ⟨fun _=>⟨l,by rw [hp];simp,hz⟩,fun _=>rfl⟩
  exact key core [] rfl (by simp)
end Go.Proofs.YtcomnjodjijcmaaGreat.Q
namespace Go.Proofs.YtcomnjodjijcmaaGreat.Q
set_option linter.unusedVariables false
set_option linter.unusedSimpArgs false
open Go.RowKit Go.Proofs.YtcomnjodjijcmaaGreatW.dB Go.Proofs.YtcomnjodjijcmaaGreatW.eO M R P
section
abbrev Fm:=P.S25
def al (x y:List Sp):Prop:=x≠[]→y≠[]→x=y
def DU (x y:List Sp):List Sp:=if x=[] then y else x
def DC (x y:List Sp):List Sp:=if y=[] then [] else x
def DL (x y:List Sp):List Sp:=if y=[] then x else []
def bF (A:Fm) (i:Int):List Sp:=bT A.f0 A.f1 A.f2 i
def vF (A:Fm) (i:Int):List Sp × Int:=jW A.f0 A.f1 A.f2 A.f3 i
def nF (A B:Fm):Nat:=rn A.f2.length B.f2.length
def tF (A B:Fm):Int:=rt A.f0 A.f2.length B.f0 B.f2.length
def oL (A B:Fm):Prop:=A.f2=[]∨B.f2=[]∨tF A B=tF B A
def jr (A B:Fm):List Int:=ji (kP ((A.f3++B.f3).map fun g=>g.f0))
def sfF (A:Fm):Prop:=SF A.f0 A.f1 A.f2 A.f3
structure OfH (A B:Fm):Prop where
  sa:sfF A
  sb:sfF B
  ga:A.f2≠[]→∃ l∈A.f2,l≠[]
  gb:B.f2≠[]→∃ l∈B.f2,l≠[]
  n:nF A B≤6000
  t:tF A B≤1099511627776
  t':tF B A≤1099511627776
  pa:A.f0≤100000000
  pb:B.f0≤100000000
  ma:∀ i,0≤i→i<(nF A B:Int)→∀ s∈bF A i,-1099511627776≤s.f0∧s.f1≤1099511627776
  mb:∀ i,0≤i→i<(nF A B:Int)→∀ s∈bF B i,-1099511627776≤s.f0∧s.f1≤1099511627776
  o:A.f3.length+B.f3.length≤6000
theorem afp (a b:Nat):rn a b=rn b a:=by
  unfold rn;by_cases h:a=0
  · by_cases g:b=0
    · rw [if_pos h,if_pos g,h,g]
    · rw [if_pos h,if_neg g,if_pos h]
  · by_cases g:b=0
    · rw [if_neg h,if_pos g,if_pos g]
    · rw [if_neg h,if_neg g,if_neg g,if_neg h,Nat.lcm_comm]
theorem uU (A B:Fm):nF A B=nF B A:=afp _ _
theorem nT (A B:Fm):(jr A B).length≤A.f3.length+B.f3.length:=by
  have h1:(jr A B).length≤(kP ((A.f3++B.f3).map fun g=>g.f0)).length:=Lib.compact_length_le _;have h2:(kP ((A.f3++B.f3).map fun g=>g.f0)).length=A.f3.length+B.f3.length:=by rw [rC];simp
  omega
theorem oM {A:Fm} (h:sfF A) (i:Int):(bF A i).length≤4611686018427387904:=by
  unfold bF bT;rw [List.length_map];by_cases hc:A.f1=0
  · unfold gK;rw [if_pos hc];simp
  · have:=(h.hcore _ (h.jU i hc)).uH
    omega
theorem rdP (l:List P2) (j:Nat) (hj:j<l.length):gP l (j:Int)=l[j]:=by simp [gP,hj]
theorem rdI (l:List Int) (j:Nat) (hj:j<l.length):gI l (j:Int)=l[j]:=by simp [gI,hj]
theorem agE (k:Nat) (x y:List Sp):iL.f k x y=some (DU x y):=by
  unfold iL.f DU;simp only [decide_eq_true_eq];by_cases h:x=[]
  · rw [if_pos h,if_neg (by rw [h];simp)]
  · rw [if_neg h,if_pos (by have:=List.length_pos_iff.2 h;omega)]
theorem agF (k:Nat) (x y:List Sp):iM.f k x y=some (DC x y):=by
  unfold iM.f DC;simp only [decide_eq_true_eq];by_cases h:y=[]
  · rw [if_pos h,if_neg (by rw [h];simp)]
  · rw [if_neg h,if_pos (by have:=List.length_pos_iff.2 h;omega)]
theorem agG (k:Nat) (x y:List Sp):iN.f k x y=some (DL x y):=by
  unfold iN.f DL;simp only [decide_eq_true_eq];by_cases h:y=[]
  · rw [if_pos h,if_neg (by rw [h];simp)]
  · rw [if_neg h,if_pos (by have:=List.length_pos_iff.2 h;omega)]
end
variable [Inhabited WT]
theorem uV {A B:Fm} (H:OfH A B):∃ r,Ev (fun k=>dP.f k A.f0 A.f1 A.f2 A.f3 B.f0 B.f1 B.f2 B.f3) r∧(oL A B→r=((List.range (nF A B)).map (fun (i:Nat)=>(⟨bF A (i:Int),bF B (i:Int)⟩:P2)),tF A B,0))∧(¬ oL A B→r=([],0,51)):=by
  obtain ⟨ga,a1,a2⟩:=aci H.sa;obtain ⟨gb,b1,b2⟩:=aci H.sb;have ra:=wO H.sa H.sb H.n H.t;have rb:=wO H.sb H.sa (by have:=H.n;rw [uU] at this;exact this) H.t';have za:A.f2≠[]↔ga=true:=⟨fun h=>a2.2 (H.ga h),fun e h=>by obtain ⟨l,hl,_⟩:=a2.1 e;rw [h] at hl;cases hl⟩;have zb:B.f2≠[]↔gb=true:=⟨fun h=>b2.2 (H.gb h),fun e h=>by obtain ⟨l,hl,_⟩:=b2.1 e;rw [h] at hl;cases hl⟩;have hn:=H.n;have key:∀ (d j:Nat),nF A B - j=d→j≤nF A B→Ev (fun k=>dP.l1 (fun _=>some (([]:List P2),(0:Int),(20:Int))) (fun y=>some (y,tF A B,0)) (nF A B:Int) A.f0 A.f1 A.f2 A.f3 B.f0 B.f1 B.f2 B.f3 k ((List.range j).map (fun (i:Nat)=>(⟨bF A (i:Int),bF B (i:Int)⟩:P2))) (j:Int)) ((List.range (nF A B)).map (fun (i:Nat)=>(⟨bF A (i:Int),bF B (i:Int)⟩:P2)),tF A B,0):=by
    intro d;induction d with
    | zero =>
      intro j hd hj;obtain rfl:j=nF A B:=by omega
      refine Ev.step (f:=fun _=>some _) (fun k => ?_) (Ev.now _);have c1:¬ (nF A B:Int)<(nF A B:Int):=by omega
      simp only [dP.l1,dP.l1T,decide_eq_true_eq,c1,if_false]
    | succ d ih =>
      intro j hd hj;have c1:(j:Int)<(nF A B:Int):=by omega
      have hw:=nx c1 (by omega) (by omega);refine Ev.step (fun k=>rfl) ?_;simp only [dP.l1,dP.l1T,decide_eq_true_eq,c1,if_true,hw];have hlen:((List.range j).map (fun (i:Nat)=>(⟨bF A (i:Int),bF B (i:Int)⟩:P2))).length+1≤2932031007402:=by simp;omega
      refine Ev.bind (aei H.sa (j:Int) (by omega) H.pa (H.ma _ (by omega) c1)) (Ev.bind (aei H.sb (j:Int) (by omega) H.pb (H.mb _ (by omega) c1)) (Ev.no (by simp) (Ev.no (by simp) ?_)));refine Ev.yes hlen ?_;have:=ih (j+1) (by omega) (by omega);rw [List.range_succ,List.map_append] at this;exact this
  have aa:=key (nF A B) 0 (by omega) (by omega);simp only [List.range_zero,List.map_nil,Int.natCast_zero] at aa;unfold dP.f;by_cases ha:A.f2=[]
  · have hga:ga=false:=by
      cases ga
      · rfl
      · exact absurd ha (za.2 rfl)
    subst hga;refine ⟨_,Ev.bind ra (Ev.no (by simp) (Ev.bind a1 (Ev.no (by simp) ?_))),fun _=>rfl,fun hf=>absurd (.inl ha) hf⟩;exact aa
  · have hga:ga=true:=za.1 ha
    subst hga;by_cases hb:B.f2=[]
    · have hgb:gb=false:=by
        cases gb
        · rfl
        · exact absurd hb (zb.2 rfl)
      subst hgb;refine ⟨_,Ev.bind ra (Ev.no (by simp) (Ev.bind a1 (Ev.yes rfl (Ev.bind b1 (Ev.no (by simp) ?_))))),fun _=>rfl,fun hf=>absurd (.inr (.inl hb)) hf⟩;exact aa
    · have hgb:gb=true:=zb.1 hb
      subst hgb;by_cases hf:tF B A=tF A B
      · refine ⟨_,Ev.bind ra (Ev.no (by simp) (Ev.bind a1 (Ev.yes rfl (Ev.bind b1 (Ev.yes rfl (Ev.bind rb (Ev.no (by simp only [Bool.not_eq_true',decide_eq_false_iff_not];exact fun e=>e hf) ?_))))))),fun _=>rfl,fun hf'=>absurd (.inr (.inr hf.symm)) hf'⟩
        exact aa
      · refine ⟨_,Ev.bind ra (Ev.no (by simp) (Ev.bind a1 (Ev.yes rfl (Ev.bind b1 (Ev.yes rfl (Ev.bind rb (Ev.yes (by simp only [Bool.not_eq_true',decide_eq_false_iff_not];exact hf) (Ev.now _)))))))),fun hf' => ?_,fun _=>rfl⟩
        rcases hf' with e | e | e
        · exact absurd e ha
        · exact absurd e hb
        · exact absurd e.symm hf
theorem nA (l:List P2) (hl:l.length≤6000) (hm:∀ q∈l,q.f0.length≤4611686018427387904):∃ b,Ev (fun k=>dZ.f k l) b∧(b=true↔∀ q∈l,al q.f0 q.f1):=by
  unfold dZ.f;have one:∀ q∈l,∃ b,Ev (fun k=>iI.f k q.f0 q.f1) b∧(b=false↔al q.f0 q.f1):=fun q hq=>by
    unfold iI.f;simp only [decide_eq_true_eq];by_cases h1:q.f0=[]
    · refine ⟨false,Ev.no (by rw [h1];simp) (Ev.now _),fun _ a=>absurd h1 a,fun _=>rfl⟩
    · by_cases h2:q.f1=[]
      · refine ⟨false,Ev.yes (by have:=List.length_pos_iff.2 h1;omega) (Ev.no (by rw [h2];simp) (Ev.now _)),fun _ _ a=>absurd h2 a,fun _=>rfl⟩
      · obtain ⟨r,r1,r2⟩:=uP q.f0 q.f1 (hm q hq)
        refine ⟨!r,Ev.yes (by have:=List.length_pos_iff.2 h1;omega) (Ev.yes (by have:=List.length_pos_iff.2 h2;omega) (Ev.bind r1 (Ev.now _))),?_⟩;cases r with
        | true=>exact ⟨fun _ _ _=>r2.1 rfl,fun _=>rfl⟩
        | false=>exact ⟨fun e=>(by cases e),fun a=>absurd (r2.2 (a h1 h2)) (by simp)⟩
  have key:∀ (rest pre:List P2),l=pre++rest→(∀ q∈pre,al q.f0 q.f1)→∃ b,Ev (fun k=>dZ.l0 (fun y=>some (!decide (y≥0))) (some true) l (l.length:Int) k (pre.length:Int)) b∧(b=true↔∀ q∈l,al q.f0 q.f1):=by
    intro rest;induction rest with
    | nil =>
      intro pre hp he;refine ⟨true,Ev.step (f:=fun _=>some true) (fun k => ?_) (Ev.now _),?_⟩
      · have c1:¬ (pre.length:Int)<(l.length:Int):=by rw [hp];simp
        simp only [dZ.l0,dZ.l0T,decide_eq_true_eq,c1,if_false]
      · simp only [List.append_nil] at hp
        subst hp;exact ⟨fun _=>he,fun _=>rfl⟩
    | cons q r ih =>
      intro pre hp he;have hlen:pre.length+1≤l.length:=by rw [hp];simp
      have hrd:gP l (pre.length:Int)=q:=by rw [hp];simp [gP]
      have hq:q∈l:=by rw [hp];simp
      have c1:(pre.length:Int)<(l.length:Int):=by omega
      have c2:(0:Int)≤(pre.length:Int):=by omega
      have hw:=nx c1 c2 (by omega);obtain ⟨b,b1,b2⟩:=one q hq;cases b with
      | false =>
        obtain ⟨x,x1,x2⟩:=ih (pre++[q]) (by rw [hp];simp) (fun y hy=>by
          rcases List.mem_append.1 hy with hy | hy
          · exact he y hy
          · simp at hy;rw [hy];exact b2.1 rfl)
        refine ⟨x,Ev.step (fun k=>rfl) ?_,x2⟩;simp only [dZ.l0,dZ.l0T,decide_eq_true_eq,c1,c2,if_true,hrd,hw];refine Ev.bind b1 (Ev.no (by simp) ?_);rw [len1 _ q];exact x1
      | true =>
        refine ⟨false,Ev.step (fun k=>rfl) ?_,fun e=>(by cases e),fun e=>absurd (b2.2 (e q hq)) (by simp)⟩;simp only [dZ.l0,dZ.l0T,decide_eq_true_eq,c1,c2,if_true,hrd,hw];refine Ev.bind b1 (Ev.yes rfl ?_);exact Ev.congr (f:=fun _=>some false) (fun k=>by simp) (Ev.now _)
  exact key l [] rfl (by simp)
theorem acj (x y:List Gn) (h:x.length+y.length≤6000):Ev (fun k=>cZ.f k [x,y]) (x++y):=by
  refine ⟨3,fun k hk => ?_⟩;obtain ⟨k,rfl⟩:∃ j,k=j+3:=⟨k - 3,by omega⟩;have w0:wq (x.length:Int)=(x.length:Int):=jf (by omega) (by omega);have w1:wq ((x.length:Int)+(y.length:Int))=(x.length:Int)+(y.length:Int):=jf (by omega) (by omega);have w2:wq 1=1:=jf (by omega) (by omega);have w3:wq 2=2:=jf (by omega) (by omega);have n1:¬ ((x.length:Int)<0):=by omega
  have n2:¬ ((x.length:Int)+(y.length:Int)<0):=by omega
  have m1:x.length≤4398046511104:=by omega
  have m2:x.length+y.length≤4398046511104:=by omega
  have g0:(0:Int)≤(x.length:Int)+(y.length:Int):=by omega
  have g1:(x.length:Int)+(y.length:Int)≤8796093022208:=by omega
  simp [cZ.f,cZ.l0,cZ.l0T,cZ.l1,cZ.l1T,eD.f,gM,w0,w1,w2,w3,n1,n2,m1,m2,g0,g1]
theorem xX {A B:Fm} (H:OfH A B):Ev (fun k=>dS.f k A.f0 A.f1 A.f2 A.f3 B.f0 B.f1 B.f2 B.f3) (jr A B,(jr A B).map fun i=>(⟨(vF A i).1,(vF B i).1⟩:P2)):=by
  have ho:=H.o;have hil:=nT A B;unfold dS.f;refine Ev.bind (acj A.f3 B.f3 ho) ?_;have hl:(A.f3++B.f3).length≤6000:=by simp;omega
  have k1:∀ (d j:Nat),(jr A B).length - j=d→j≤(jr A B).length→Ev (fun k=>dS.l1 (fun y9=>some (jr A B,y9)) (jr A B) ((jr A B).length:Int) A.f0 A.f1 A.f2 A.f3 B.f0 B.f1 B.f2 B.f3 k (((jr A B).take j).map fun i=>(⟨(vF A i).1,(vF B i).1⟩:P2)) (j:Int)) (jr A B,(jr A B).map fun i=>(⟨(vF A i).1,(vF B i).1⟩:P2)):=by
    intro d;induction d with
    | zero =>
      intro j hd hj;obtain rfl:j=(jr A B).length:=by omega
      refine Ev.step (f:=fun _=>some _) (fun k => ?_) (Ev.now _);have c1:¬ ((jr A B).length:Int)<((jr A B).length:Int):=by omega
      simp only [dS.l1,dS.l1T,decide_eq_true_eq,c1,if_false,List.take_length]
    | succ d ih =>
      intro j hd hj;have hj':j<(jr A B).length:=by omega
      have c1:(j:Int)<((jr A B).length:Int):=by omega
      have c2:(0:Int)≤(j:Int):=by omega
      have hw:=nx c1 c2 (by omega);refine Ev.step (fun k=>rfl) ?_;simp only [dS.l1,dS.l1T,decide_eq_true_eq,c1,c2,if_true,hw,rdI _ j hj'];have hlen:(((jr A B).take j).map fun i=>(⟨(vF A i).1,(vF B i).1⟩:P2)).length+1≤2932031007402:=by simp;omega
      refine Ev.bind (jN H.sa _) (Ev.bind (jN H.sb _) ?_);refine Ev.yes hlen ?_;have:=ih (j+1) (by omega) (by omega);rw [List.take_succ_eq_append_getElem hj',List.map_append] at this;exact this
  have k0:∀ (d j:Nat),(A.f3++B.f3).length - j=d→j≤(A.f3++B.f3).length→∀ (X:Nat→List Int→Option (List Int × List P2)) (v:List Int × List P2),Ev (fun k=>X k ((A.f3++B.f3).map fun g=>g.f0)) v→Ev (fun k=>dS.l0 (X k) (A.f3++B.f3) ((A.f3++B.f3).length:Int) k (((A.f3++B.f3).take j).map fun g=>g.f0) (j:Int)) v:=by
    intro d;induction d with
    | zero =>
      intro j hd hj X v hX;obtain rfl:j=(A.f3++B.f3).length:=by omega
      refine Ev.step (f:=fun k=>X (k+1) ((A.f3++B.f3).map fun g=>g.f0)) (fun k => ?_) (Ev.shift hX);have c1:¬ ((A.f3++B.f3).length:Int)<((A.f3++B.f3).length:Int):=by omega
      simp only [dS.l0,dS.l0T,decide_eq_true_eq,c1,if_false,List.take_length]
    | succ d ih =>
      intro j hd hj X v hX;have hj':j<(A.f3++B.f3).length:=by omega
      have c1:(j:Int)<((A.f3++B.f3).length:Int):=by omega
      have c2:(0:Int)≤(j:Int):=by omega
      have hw:=nx c1 c2 (by omega);refine Ev.step (fun k=>rfl) ?_;simp only [dS.l0,dS.l0T,decide_eq_true_eq,c1,c2,if_true,hw,rdG _ j hj'];have hlen:(((A.f3++B.f3).take j).map fun g=>g.f0).length+1≤17592186044416:=by simp;omega
      refine Ev.yes hlen ?_;have:=ih (j+1) (by omega) (by omega) (fun k=>X (k+1)) v (Ev.shift hX);rw [List.take_succ_eq_append_getElem hj',List.map_append] at this;exact this
  have fin:=k0 (A.f3++B.f3).length 0 (by omega) (by omega) (fun k y2=>(if (decide (y2.length≤8796093022208))=true then (if (decide ((kP y2).length≤8796093022208))=true then (dS.l1 (fun y9=>(some ((ji (kP y2)),y9))) (ji (kP y2)) ((ji (kP y2)).length:Int) A.f0 A.f1 A.f2 A.f3 B.f0 B.f1 B.f2 B.f3 k [] 0) else none) else none)) (jr A B,(jr A B).map fun i=>(⟨(vF A i).1,(vF B i).1⟩:P2)) (by
    refine Ev.yes (by simp;omega) (Ev.yes (by simp [rC];omega) ?_);have:=k1 _ 0 rfl (by omega);exact this)
  exact fin
end Go.Proofs.YtcomnjodjijcmaaGreat.Q
namespace Go.Proofs.YtcomnjodjijcmaaGreat.Q
set_option linter.unusedVariables false
set_option linter.unusedSimpArgs false
open Go.RowKit Go.Proofs.YtcomnjodjijcmaaGreatW.dB Go.Proofs.YtcomnjodjijcmaaGreatW.eO M R P
section
def gX (D:List Sp→List Sp→List Sp) (A B:Fm):Fm:=⟨tF A B,(nF A B:Int),(List.range (nF A B)).map (fun (i:Nat)=>D (bF A (i:Int)) (bF B (i:Int))),(jr A B).map fun i=>⟨i,D (vF A i).1 (vF B i).1⟩⟩
def rO (A B:Fm):Prop:=oL A B∧(∀ i:Nat,i<nF A B→al (bF A (i:Int)) (bF B (i:Int)))∧∀ i∈jr A B,al (vF A i).1 (vF B i).1
def grF (A:Fm):Prop:=GR A.f0 A.f1 A.f2 A.f3
def adN (A h:Fm):Prop:=wS A.f0 A.f2 A.f3 h
def noF:Fm:=⟨0,0,[],[]⟩
def OfS (D:List Sp→List Sp→List Sp) (A B:Fm) (r:Fm × Int):Prop :=
  (¬ rO A B→r=(noF,51))∧(rO A B→(¬ grF (gX D A B)→r=(noF,51))∧(grF (gX D A B)→∃ h,adN (gX D A B) h∧r=(h,0)))
def oneOf (D:List Sp→List Sp→List Sp):Prop:=∀ x y,D x y=x∨D x y=y∨D x y=[]
theorem afH:oneOf DU:=fun x y=>by unfold DU;split;exact .inr (.inl rfl);exact .inl rfl
theorem afI:oneOf DC:=fun x y=>by unfold DC;split;exact .inr (.inr rfl);exact .inl rfl
theorem afJ:oneOf DL:=fun x y=>by unfold DL;split;exact .inl rfl;exact .inr (.inr rfl)
end
variable [Inhabited WT]
theorem adO {p c p' c':Int} {core gU:List (List Sp)} {odd kQ:List Gn} {A B:Fm} (ca:Ev (fun k=>dN.f k p c core odd) A) (cb:Ev (fun k=>dN.f k p' c' gU kQ) B) (H:OfH A B) (hs:lN (gX DU A B).f2 (gX DU A B).f3≤60000) :
    ∃ r,Ev (fun k=>dD.f k p c core odd p' c' gU kQ) r∧OfS DU A B r:=by
  obtain ⟨r1,c1,c2,c3⟩:=uV H;have hn:=H.n;have ho:=H.o;have hil:=nT A B;unfold dD.f;by_cases hf:oL A B
  case neg =>
    have:=c3 hf;subst this;exact ⟨_,Ev.bind ca (Ev.bind cb (Ev.bind c1 (Ev.yes (by simp) (Ev.now _)))),fun _=>rfl,fun h=>absurd h.1 hf⟩
  have:=c2 hf;subst this;obtain ⟨b1,d1,d2⟩:=nA ((List.range (nF A B)).map (fun (i:Nat)=>(⟨bF A (i:Int),bF B (i:Int)⟩:P2))) (by simp;omega) (fun q hq=>by
    obtain ⟨i,_,rfl⟩:=List.mem_map.1 hq;exact oM H.sa _)
  obtain ⟨b2,e1,e2⟩:=nA ((jr A B).map fun i=>(⟨(vF A i).1,(vF B i).1⟩:P2)) (by simp;omega) (fun q hq=>by
    obtain ⟨i,_,rfl⟩:=List.mem_map.1 hq;exact kG H.sa _)
  have od:=xX H;cases b1 with
  | false =>
    refine ⟨_,Ev.bind ca (Ev.bind cb (Ev.bind c1 (Ev.no (by simp) (Ev.bind od (Ev.bind d1 (Ev.yes rfl (Ev.now _))))))),fun _=>rfl,fun h => ?_⟩;exact absurd (d2.2 fun q hq=>by
      obtain ⟨i,hi,rfl⟩:=List.mem_map.1 hq;exact h.2.1 i (List.mem_range.1 hi)) (by simp)
  | true =>
  cases b2 with
  | false =>
    refine ⟨_,Ev.bind ca (Ev.bind cb (Ev.bind c1 (Ev.no (by simp) (Ev.bind od (Ev.bind d1 (Ev.no (by simp) (Ev.bind e1 (Ev.yes rfl (Ev.now _))))))))),fun _=>rfl,fun h => ?_⟩;exact absurd (e2.2 fun q hq=>by
      obtain ⟨i,hi,rfl⟩:=List.mem_map.1 hq;exact h.2.2 i hi) (by simp)
  | true =>
  have hal:rO A B:=⟨hf,fun i hi=>d2.1 rfl _ (List.mem_map.2 ⟨i,List.mem_range.2 hi,rfl⟩),fun i hi=>e2.1 rfl _ (List.mem_map.2 ⟨i,hi,rfl⟩)⟩;have m:MF (gX DU A B).f2 (gX DU A B).f3:=by
    refine ⟨fun l hl => ?_,fun g hg => ?_⟩
    · obtain ⟨i,_,rfl⟩:=List.mem_map.1 hl
      have q1:=oM H.sa (i:Int);have q2:=oM H.sb (i:Int);rcases afH (bF A (i:Int)) (bF B (i:Int)) with e | e | e
      · rw [e];omega
      · rw [e];omega
      · rw [e];simp
    · obtain ⟨i,_,rfl⟩:=List.mem_map.1 hg
      have q1:(vF A i).1.length≤4611686018427387904:=kG H.sa i;have q2:(vF B i).1.length≤4611686018427387904:=kG H.sb i;show (DU (vF A i).1 (vF B i).1).length≤_;rcases afH (vF A i).1 (vF B i).1 with e | e | e
      · rw [e];omega
      · rw [e];omega
      · rw [e];simp
  obtain ⟨n,⟨_,g2⟩,e,f1,f2,f3,f4⟩:=mP (p:=(gX DU A B).f0) (c:=(gX DU A B).f1) m (by simp [gX];omega) (by simp [gX];omega);have hne:=g2 (by omega);have l1:∀ (L:List P2),L.length≤6000→∀ (d j:Nat),L.length - j=d→j≤L.length→∀ (X:Nat→List (List Sp)→Option (Fm × Int)) (v:Fm × Int),Ev (fun k=>X k (L.map fun q=>DU q.f0 q.f1)) v→Ev (fun k=>dD.l1 (X k) L (L.length:Int) k (j:Int) ((L.take j).map fun q=>DU q.f0 q.f1)) v:=by
    intro L hL d;induction d with
    | zero =>
      intro j hd hj X v hX;obtain rfl:j=L.length:=by omega
      refine Ev.step (f:=fun k=>X (k+1) (L.map fun q=>DU q.f0 q.f1)) (fun k => ?_) (Ev.shift hX);have c1:¬ (L.length:Int)<(L.length:Int):=by omega
      simp only [dD.l1,dD.l1T,decide_eq_true_eq,c1,if_false,List.take_length]
    | succ d ih =>
      intro j hd hj X v hX;have hj':j<L.length:=by omega
      have c1:(j:Int)<(L.length:Int):=by omega
      have c2:(0:Int)≤(j:Int):=by omega
      have hw:=nx c1 c2 (by omega);refine Ev.step (fun k=>rfl) ?_;simp only [dD.l1,dD.l1T,decide_eq_true_eq,c1,c2,if_true,hw,rdP _ j hj',agE,Option.bind_some];have hlen:((L.take j).map fun q=>DU q.f0 q.f1).length+1≤5864062014805:=by simp;omega
      refine Ev.yes hlen ?_;have:=ih (j+1) (by omega) (by omega) (fun k=>X (k+1)) v (Ev.shift hX);rw [List.take_succ_eq_append_getElem hj',List.map_append] at this;exact this
  have l2:∀ (d j:Nat),(jr A B).length - j=d→j≤(jr A B).length→∀ (X:Nat→List Gn→Option (Fm × Int)) (v:Fm × Int),Ev (fun k=>X k (gX DU A B).f3) v→Ev (fun k=>dD.l2 (X k) (jr A B) ((jr A B).map fun i=>(⟨(vF A i).1,(vF B i).1⟩:P2)) (((jr A B).map fun i=>(⟨(vF A i).1,(vF B i).1⟩:P2)).length:Int) k (j:Int) (((jr A B).take j).map fun i=>⟨i,DU (vF A i).1 (vF B i).1⟩)) v:=by
    intro d;have hml:((jr A B).map fun i=>(⟨(vF A i).1,(vF B i).1⟩:P2)).length=(jr A B).length:=by simp
    induction d with
    | zero =>
      intro j hd hj X v hX;obtain rfl:j=(jr A B).length:=by omega
      refine Ev.step (f:=fun k=>X (k+1) (gX DU A B).f3) (fun k => ?_) (Ev.shift hX);have c1:¬ ((jr A B).length:Int)<((jr A B).length:Int):=by omega
      simp only [dD.l2,dD.l2T,decide_eq_true_eq,hml,c1,if_false,List.take_length];rfl
    | succ d ih =>
      intro j hd hj X v hX;have hj':j<(jr A B).length:=by omega
      have c1:(j:Int)<((jr A B).length:Int):=by omega
      have c2:(0:Int)≤(j:Int):=by omega
      have hw:=nx c1 c2 (by omega);refine Ev.step (fun k=>rfl) ?_;simp only [dD.l2,dD.l2T,decide_eq_true_eq,hml,c1,c2,if_true,hw,rdP _ j (show j<((jr A B).map fun i=>(⟨(vF A i).1,(vF B i).1⟩:P2)).length by rw [hml];exact hj'),rdI _ j hj',agE,Option.bind_some,List.getElem_map];have hlen:(((jr A B).take j).map fun i=>(⟨i,DU (vF A i).1 (vF B i).1⟩:Gn)).length+1≤4398046511104:=by simp;omega
      refine Ev.yes hlen ?_;have:=ih (j+1) (by omega) (by omega) (fun k=>X (k+1)) v (Ev.shift hX);rw [List.take_succ_eq_append_getElem hj',List.map_append,hml] at this;exact this
  have hml:(((List.range (nF A B)).map (fun (i:Nat)=>(⟨bF A (i:Int),bF B (i:Int)⟩:P2))).map fun q=>DU q.f0 q.f1)=(gX DU A B).f2:=by
    simp [gX,List.map_map,Function.comp_def]
  have hll:((((List.range (nF A B)).map (fun (i:Nat)=>(⟨bF A (i:Int),bF B (i:Int)⟩:P2)))).length:Int)=(gX DU A B).f1:=by simp [gX]
  have fin:∀ v,Ev (fun k=>(dJ.f k (gX DU A B).f0 (gX DU A B).f1 (gX DU A B).f2 (gX DU A B).f3).bind fun aa=>(if (decide (aa=0))=true then ((dN.f k (gX DU A B).f0 (gX DU A B).f1 (gX DU A B).f2 (gX DU A B).f3).bind fun t16=>(some ((⟨t16.f0,t16.f1,t16.f2,t16.f3⟩:Fm),(0:Int)))) else (if (decide (aa=3))=true then some (noF,3) else some (noF,51)))) v →
      Ev (fun k=>dD.f k p c core odd p' c' gU kQ) v:=fun v hv=>by
    unfold dD.f;refine Ev.bind ca (Ev.bind cb (Ev.bind c1 (Ev.no (by simp) (Ev.bind od (Ev.bind d1 (Ev.no (by simp) (Ev.bind e1 (Ev.no (by simp) ?_))))))));unfold dD.l0;have k2:=l2 (jr A B).length 0 (by omega) (by omega) (fun k ab=>(dJ.f k (gX DU A B).f0 (gX DU A B).f1 (gX DU A B).f2 ab).bind fun aa=>(if (decide (aa=0))=true then ((dN.f k (gX DU A B).f0 (gX DU A B).f1 (gX DU A B).f2 ab).bind fun t16=>(some ((⟨t16.f0,t16.f1,t16.f2,t16.f3⟩:Fm),(0:Int)))) else (if (decide (aa=3))=true then some (noF,3) else some (noF,51)))) v hv;have k1:=l1 ((List.range (nF A B)).map (fun (i:Nat)=>(⟨bF A (i:Int),bF B (i:Int)⟩:P2))) (by simp;omega) _ 0 rfl (by omega) (fun k ac=>dD.l2 (fun ab=>(dJ.f k (gX DU A B).f0 (gX DU A B).f1 ac ab).bind fun aa=>(if (decide (aa=0))=true then ((dN.f k (gX DU A B).f0 (gX DU A B).f1 ac ab).bind fun t16=>(some ((⟨t16.f0,t16.f1,t16.f2,t16.f3⟩:Fm),(0:Int)))) else (if (decide (aa=3))=true then some (noF,3) else some (noF,51)))) (jr A B) ((jr A B).map fun i=>(⟨(vF A i).1,(vF B i).1⟩:P2)) (((jr A B).map fun i=>(⟨(vF A i).1,(vF B i).1⟩:P2)).length:Int) k 0 []) v (by rw [hml];exact k2);simp only [hll] at k1 ⊢;exact k1
  by_cases hg:grF (gX DU A B)
  · have he:e=0:=f4.2 ⟨by omega,hg⟩
    subst he;obtain ⟨h,h1,h2⟩:=kY (p:=(gX DU A B).f0) (c:=(gX DU A B).f1) (core:=(gX DU A B).f2) (odd:=(gX DU A B).f3) hg.s;have r1:=fin (h,0) (Ev.bind f1 (Ev.yes rfl (Ev.bind h1 (Ev.now _))));exact ⟨_,r1,fun hh=>absurd hal hh,fun _=>⟨fun hh=>absurd hg hh,fun _=>⟨h,h2,rfl⟩⟩⟩
  · have he:e=50:=by
      rcases f2 with e' | e' | e'
      · exact absurd (f4.1 e').2 hg
      · exact absurd (f3.1 e') (by omega)
      · exact e'
    subst he;have r1:=fin (noF,51) (Ev.bind f1 (Ev.no (by simp) (Ev.no (by simp) (Ev.now _))));exact ⟨_,r1,fun hh=>absurd hal hh,fun _=>⟨fun _=>rfl,fun hh=>absurd hh hg⟩⟩
theorem agH {p c p' c':Int} {core gU:List (List Sp)} {odd kQ:List Gn} {A B:Fm} (ca:Ev (fun k=>dN.f k p c core odd) A) (cb:Ev (fun k=>dN.f k p' c' gU kQ) B) (H:OfH A B) (hs:lN (gX DC A B).f2 (gX DC A B).f3≤60000) :
    ∃ r,Ev (fun k=>dO.f k p c core odd p' c' gU kQ) r∧OfS DC A B r:=by
  obtain ⟨r1,c1,c2,c3⟩:=uV H;have hn:=H.n;have ho:=H.o;have hil:=nT A B;unfold dO.f;by_cases hf:oL A B
  case neg =>
    have:=c3 hf;subst this;exact ⟨_,Ev.bind ca (Ev.bind cb (Ev.bind c1 (Ev.yes (by simp) (Ev.now _)))),fun _=>rfl,fun h=>absurd h.1 hf⟩
  have:=c2 hf;subst this;obtain ⟨b1,d1,d2⟩:=nA ((List.range (nF A B)).map (fun (i:Nat)=>(⟨bF A (i:Int),bF B (i:Int)⟩:P2))) (by simp;omega) (fun q hq=>by
    obtain ⟨i,_,rfl⟩:=List.mem_map.1 hq;exact oM H.sa _)
  obtain ⟨b2,e1,e2⟩:=nA ((jr A B).map fun i=>(⟨(vF A i).1,(vF B i).1⟩:P2)) (by simp;omega) (fun q hq=>by
    obtain ⟨i,_,rfl⟩:=List.mem_map.1 hq;exact kG H.sa _)
  have od:=xX H;cases b1 with
  | false =>
    refine ⟨_,Ev.bind ca (Ev.bind cb (Ev.bind c1 (Ev.no (by simp) (Ev.bind od (Ev.bind d1 (Ev.yes rfl (Ev.now _))))))),fun _=>rfl,fun h => ?_⟩;exact absurd (d2.2 fun q hq=>by
      obtain ⟨i,hi,rfl⟩:=List.mem_map.1 hq;exact h.2.1 i (List.mem_range.1 hi)) (by simp)
  | true =>
  cases b2 with
  | false =>
    refine ⟨_,Ev.bind ca (Ev.bind cb (Ev.bind c1 (Ev.no (by simp) (Ev.bind od (Ev.bind d1 (Ev.no (by simp) (Ev.bind e1 (Ev.yes rfl (Ev.now _))))))))),fun _=>rfl,fun h => ?_⟩;exact absurd (e2.2 fun q hq=>by
      obtain ⟨i,hi,rfl⟩:=List.mem_map.1 hq;exact h.2.2 i hi) (by simp)
  | true =>
  have hal:rO A B:=⟨hf,fun i hi=>d2.1 rfl _ (List.mem_map.2 ⟨i,List.mem_range.2 hi,rfl⟩),fun i hi=>e2.1 rfl _ (List.mem_map.2 ⟨i,hi,rfl⟩)⟩;have m:MF (gX DC A B).f2 (gX DC A B).f3:=by
    refine ⟨fun l hl => ?_,fun g hg => ?_⟩
    · obtain ⟨i,_,rfl⟩:=List.mem_map.1 hl
      have q1:=oM H.sa (i:Int);have q2:=oM H.sb (i:Int);rcases afI (bF A (i:Int)) (bF B (i:Int)) with e | e | e
      · rw [e];omega
      · rw [e];omega
      · rw [e];simp
    · obtain ⟨i,_,rfl⟩:=List.mem_map.1 hg
      have q1:(vF A i).1.length≤4611686018427387904:=kG H.sa i;have q2:(vF B i).1.length≤4611686018427387904:=kG H.sb i;show (DC (vF A i).1 (vF B i).1).length≤_;rcases afI (vF A i).1 (vF B i).1 with e | e | e
      · rw [e];omega
      · rw [e];omega
      · rw [e];simp
  obtain ⟨n,⟨_,g2⟩,e,f1,f2,f3,f4⟩:=mP (p:=(gX DC A B).f0) (c:=(gX DC A B).f1) m (by simp [gX];omega) (by simp [gX];omega);have hne:=g2 (by omega);have l1:∀ (L:List P2),L.length≤6000→∀ (d j:Nat),L.length - j=d→j≤L.length→∀ (X:Nat→List (List Sp)→Option (Fm × Int)) (v:Fm × Int),Ev (fun k=>X k (L.map fun q=>DC q.f0 q.f1)) v→Ev (fun k=>dO.l1 (X k) L (L.length:Int) k (j:Int) ((L.take j).map fun q=>DC q.f0 q.f1)) v:=by
    intro L hL d;induction d with
    | zero =>
      intro j hd hj X v hX;obtain rfl:j=L.length:=by omega
      refine Ev.step (f:=fun k=>X (k+1) (L.map fun q=>DC q.f0 q.f1)) (fun k => ?_) (Ev.shift hX);have c1:¬ (L.length:Int)<(L.length:Int):=by omega
      simp only [dO.l1,dO.l1T,decide_eq_true_eq,c1,if_false,List.take_length]
    | succ d ih =>
      intro j hd hj X v hX;have hj':j<L.length:=by omega
      have c1:(j:Int)<(L.length:Int):=by omega
      have c2:(0:Int)≤(j:Int):=by omega
      have hw:=nx c1 c2 (by omega);refine Ev.step (fun k=>rfl) ?_;simp only [dO.l1,dO.l1T,decide_eq_true_eq,c1,c2,if_true,hw,rdP _ j hj',agF,Option.bind_some];have hlen:((L.take j).map fun q=>DC q.f0 q.f1).length+1≤5864062014805:=by simp;omega
      refine Ev.yes hlen ?_;have:=ih (j+1) (by omega) (by omega) (fun k=>X (k+1)) v (Ev.shift hX);rw [List.take_succ_eq_append_getElem hj',List.map_append] at this;exact this
  have l2:∀ (d j:Nat),(jr A B).length - j=d→j≤(jr A B).length→∀ (X:Nat→List Gn→Option (Fm × Int)) (v:Fm × Int),Ev (fun k=>X k (gX DC A B).f3) v→Ev (fun k=>dO.l2 (X k) (jr A B) ((jr A B).map fun i=>(⟨(vF A i).1,(vF B i).1⟩:P2)) (((jr A B).map fun i=>(⟨(vF A i).1,(vF B i).1⟩:P2)).length:Int) k (j:Int) (((jr A B).take j).map fun i=>⟨i,DC (vF A i).1 (vF B i).1⟩)) v:=by
    intro d;have hml:((jr A B).map fun i=>(⟨(vF A i).1,(vF B i).1⟩:P2)).length=(jr A B).length:=by simp
    induction d with
    | zero =>
      intro j hd hj X v hX;obtain rfl:j=(jr A B).length:=by omega
      refine Ev.step (f:=fun k=>X (k+1) (gX DC A B).f3) (fun k => ?_) (Ev.shift hX);have c1:¬ ((jr A B).length:Int)<((jr A B).length:Int):=by omega
      simp only [dO.l2,dO.l2T,decide_eq_true_eq,hml,c1,if_false,List.take_length];rfl
    | succ d ih =>
      intro j hd hj X v hX;have hj':j<(jr A B).length:=by omega
      have c1:(j:Int)<((jr A B).length:Int):=by omega
      have c2:(0:Int)≤(j:Int):=by omega
      have hw:=nx c1 c2 (by omega);refine Ev.step (fun k=>rfl) ?_;simp only [dO.l2,dO.l2T,decide_eq_true_eq,hml,c1,c2,if_true,hw,rdP _ j (show j<((jr A B).map fun i=>(⟨(vF A i).1,(vF B i).1⟩:P2)).length by rw [hml];exact hj'),rdI _ j hj',agF,Option.bind_some,List.getElem_map];have hlen:(((jr A B).take j).map fun i=>(⟨i,DC (vF A i).1 (vF B i).1⟩:Gn)).length+1≤4398046511104:=by simp;omega
      refine Ev.yes hlen ?_;have:=ih (j+1) (by omega) (by omega) (fun k=>X (k+1)) v (Ev.shift hX);rw [List.take_succ_eq_append_getElem hj',List.map_append,hml] at this;exact this
  have hml:(((List.range (nF A B)).map (fun (i:Nat)=>(⟨bF A (i:Int),bF B (i:Int)⟩:P2))).map fun q=>DC q.f0 q.f1)=(gX DC A B).f2:=by
    simp [gX,List.map_map,Function.comp_def]
  have hll:((((List.range (nF A B)).map (fun (i:Nat)=>(⟨bF A (i:Int),bF B (i:Int)⟩:P2)))).length:Int)=(gX DC A B).f1:=by simp [gX]
  have fin:∀ v,Ev (fun k=>(dJ.f k (gX DC A B).f0 (gX DC A B).f1 (gX DC A B).f2 (gX DC A B).f3).bind fun aa=>(if (decide (aa=0))=true then ((dN.f k (gX DC A B).f0 (gX DC A B).f1 (gX DC A B).f2 (gX DC A B).f3).bind fun t16=>(some ((⟨t16.f0,t16.f1,t16.f2,t16.f3⟩:Fm),(0:Int)))) else (if (decide (aa=3))=true then some (noF,3) else some (noF,51)))) v →
      Ev (fun k=>dO.f k p c core odd p' c' gU kQ) v:=fun v hv=>by
    unfold dO.f;refine Ev.bind ca (Ev.bind cb (Ev.bind c1 (Ev.no (by simp) (Ev.bind od (Ev.bind d1 (Ev.no (by simp) (Ev.bind e1 (Ev.no (by simp) ?_))))))));unfold dO.l0;have k2:=l2 (jr A B).length 0 (by omega) (by omega) (fun k ab=>(dJ.f k (gX DC A B).f0 (gX DC A B).f1 (gX DC A B).f2 ab).bind fun aa=>(if (decide (aa=0))=true then ((dN.f k (gX DC A B).f0 (gX DC A B).f1 (gX DC A B).f2 ab).bind fun t16=>(some ((⟨t16.f0,t16.f1,t16.f2,t16.f3⟩:Fm),(0:Int)))) else (if (decide (aa=3))=true then some (noF,3) else some (noF,51)))) v hv;have k1:=l1 ((List.range (nF A B)).map (fun (i:Nat)=>(⟨bF A (i:Int),bF B (i:Int)⟩:P2))) (by simp;omega) _ 0 rfl (by omega) (fun k ac=>dO.l2 (fun ab=>(dJ.f k (gX DC A B).f0 (gX DC A B).f1 ac ab).bind fun aa=>(if (decide (aa=0))=true then ((dN.f k (gX DC A B).f0 (gX DC A B).f1 ac ab).bind fun t16=>(some ((⟨t16.f0,t16.f1,t16.f2,t16.f3⟩:Fm),(0:Int)))) else (if (decide (aa=3))=true then some (noF,3) else some (noF,51)))) (jr A B) ((jr A B).map fun i=>(⟨(vF A i).1,(vF B i).1⟩:P2)) (((jr A B).map fun i=>(⟨(vF A i).1,(vF B i).1⟩:P2)).length:Int) k 0 []) v (by rw [hml];exact k2);simp only [hll] at k1 ⊢;exact k1
  by_cases hg:grF (gX DC A B)
  · have he:e=0:=f4.2 ⟨by omega,hg⟩
    subst he;obtain ⟨h,h1,h2⟩:=kY (p:=(gX DC A B).f0) (c:=(gX DC A B).f1) (core:=(gX DC A B).f2) (odd:=(gX DC A B).f3) hg.s;have r1:=fin (h,0) (Ev.bind f1 (Ev.yes rfl (Ev.bind h1 (Ev.now _))));exact ⟨_,r1,fun hh=>absurd hal hh,fun _=>⟨fun hh=>absurd hg hh,fun _=>⟨h,h2,rfl⟩⟩⟩
  · have he:e=50:=by
      rcases f2 with e' | e' | e'
      · exact absurd (f4.1 e').2 hg
      · exact absurd (f3.1 e') (by omega)
      · exact e'
    subst he;have r1:=fin (noF,51) (Ev.bind f1 (Ev.no (by simp) (Ev.no (by simp) (Ev.now _))));exact ⟨_,r1,fun hh=>absurd hal hh,fun _=>⟨fun _=>rfl,fun hh=>absurd hh hg⟩⟩
theorem afq {p c p' c':Int} {core gU:List (List Sp)} {odd kQ:List Gn} {A B:Fm} (ca:Ev (fun k=>dN.f k p c core odd) A) (cb:Ev (fun k=>dN.f k p' c' gU kQ) B) (H:OfH A B) (hs:lN (gX DL A B).f2 (gX DL A B).f3≤60000) :
    ∃ r,Ev (fun k=>dK.f k p c core odd p' c' gU kQ) r∧OfS DL A B r:=by
  obtain ⟨r1,c1,c2,c3⟩:=uV H;have hn:=H.n;have ho:=H.o;have hil:=nT A B;unfold dK.f;by_cases hf:oL A B
  case neg =>
    have:=c3 hf;subst this;exact ⟨_,Ev.bind ca (Ev.bind cb (Ev.bind c1 (Ev.yes (by simp) (Ev.now _)))),fun _=>rfl,fun h=>absurd h.1 hf⟩
  have:=c2 hf;subst this;obtain ⟨b1,d1,d2⟩:=nA ((List.range (nF A B)).map (fun (i:Nat)=>(⟨bF A (i:Int),bF B (i:Int)⟩:P2))) (by simp;omega) (fun q hq=>by
    obtain ⟨i,_,rfl⟩:=List.mem_map.1 hq;exact oM H.sa _)
  obtain ⟨b2,e1,e2⟩:=nA ((jr A B).map fun i=>(⟨(vF A i).1,(vF B i).1⟩:P2)) (by simp;omega) (fun q hq=>by
    obtain ⟨i,_,rfl⟩:=List.mem_map.1 hq;exact kG H.sa _)
  have od:=xX H;cases b1 with
  | false =>
    refine ⟨_,Ev.bind ca (Ev.bind cb (Ev.bind c1 (Ev.no (by simp) (Ev.bind od (Ev.bind d1 (Ev.yes rfl (Ev.now _))))))),fun _=>rfl,fun h => ?_⟩;exact absurd (d2.2 fun q hq=>by
      obtain ⟨i,hi,rfl⟩:=List.mem_map.1 hq;exact h.2.1 i (List.mem_range.1 hi)) (by simp)
  | true =>
  cases b2 with
  | false =>
    refine ⟨_,Ev.bind ca (Ev.bind cb (Ev.bind c1 (Ev.no (by simp) (Ev.bind od (Ev.bind d1 (Ev.no (by simp) (Ev.bind e1 (Ev.yes rfl (Ev.now _))))))))),fun _=>rfl,fun h => ?_⟩;exact absurd (e2.2 fun q hq=>by
      obtain ⟨i,hi,rfl⟩:=List.mem_map.1 hq;exact h.2.2 i hi) (by simp)
  | true =>
  have hal:rO A B:=⟨hf,fun i hi=>d2.1 rfl _ (List.mem_map.2 ⟨i,List.mem_range.2 hi,rfl⟩),fun i hi=>e2.1 rfl _ (List.mem_map.2 ⟨i,hi,rfl⟩)⟩;have m:MF (gX DL A B).f2 (gX DL A B).f3:=by
    refine ⟨fun l hl => ?_,fun g hg => ?_⟩
    · obtain ⟨i,_,rfl⟩:=List.mem_map.1 hl
      have q1:=oM H.sa (i:Int);have q2:=oM H.sb (i:Int);rcases afJ (bF A (i:Int)) (bF B (i:Int)) with e | e | e
      · rw [e];omega
      · rw [e];omega
      · rw [e];simp
    · obtain ⟨i,_,rfl⟩:=List.mem_map.1 hg
      have q1:(vF A i).1.length≤4611686018427387904:=kG H.sa i;have q2:(vF B i).1.length≤4611686018427387904:=kG H.sb i;show (DL (vF A i).1 (vF B i).1).length≤_;rcases afJ (vF A i).1 (vF B i).1 with e | e | e
      · rw [e];omega
      · rw [e];omega
      · rw [e];simp
  obtain ⟨n,⟨_,g2⟩,e,f1,f2,f3,f4⟩:=mP (p:=(gX DL A B).f0) (c:=(gX DL A B).f1) m (by simp [gX];omega) (by simp [gX];omega);have hne:=g2 (by omega);have l1:∀ (L:List P2),L.length≤6000→∀ (d j:Nat),L.length - j=d→j≤L.length→∀ (X:Nat→List (List Sp)→Option (Fm × Int)) (v:Fm × Int),Ev (fun k=>X k (L.map fun q=>DL q.f0 q.f1)) v→Ev (fun k=>dK.l1 (X k) L (L.length:Int) k (j:Int) ((L.take j).map fun q=>DL q.f0 q.f1)) v:=by
    intro L hL d;induction d with
    | zero =>
      intro j hd hj X v hX;obtain rfl:j=L.length:=by omega
      refine Ev.step (f:=fun k=>X (k+1) (L.map fun q=>DL q.f0 q.f1)) (fun k => ?_) (Ev.shift hX);have c1:¬ (L.length:Int)<(L.length:Int):=by omega
      simp only [dK.l1,dK.l1T,decide_eq_true_eq,c1,if_false,List.take_length]
    | succ d ih =>
      intro j hd hj X v hX;have hj':j<L.length:=by omega
      have c1:(j:Int)<(L.length:Int):=by omega
      have c2:(0:Int)≤(j:Int):=by omega
      have hw:=nx c1 c2 (by omega);refine Ev.step (fun k=>rfl) ?_;simp only [dK.l1,dK.l1T,decide_eq_true_eq,c1,c2,if_true,hw,rdP _ j hj',agG,Option.bind_some];have hlen:((L.take j).map fun q=>DL q.f0 q.f1).length+1≤5864062014805:=by simp;omega
      refine Ev.yes hlen ?_;have:=ih (j+1) (by omega) (by omega) (fun k=>X (k+1)) v (Ev.shift hX);rw [List.take_succ_eq_append_getElem hj',List.map_append] at this;exact this
  have l2:∀ (d j:Nat),(jr A B).length - j=d→j≤(jr A B).length→∀ (X:Nat→List Gn→Option (Fm × Int)) (v:Fm × Int),Ev (fun k=>X k (gX DL A B).f3) v→Ev (fun k=>dK.l2 (X k) (jr A B) ((jr A B).map fun i=>(⟨(vF A i).1,(vF B i).1⟩:P2)) (((jr A B).map fun i=>(⟨(vF A i).1,(vF B i).1⟩:P2)).length:Int) k (j:Int) (((jr A B).take j).map fun i=>⟨i,DL (vF A i).1 (vF B i).1⟩)) v:=by
    intro d;have hml:((jr A B).map fun i=>(⟨(vF A i).1,(vF B i).1⟩:P2)).length=(jr A B).length:=by simp
    induction d with
    | zero =>
      intro j hd hj X v hX;obtain rfl:j=(jr A B).length:=by omega
      refine Ev.step (f:=fun k=>X (k+1) (gX DL A B).f3) (fun k => ?_) (Ev.shift hX);have c1:¬ ((jr A B).length:Int)<((jr A B).length:Int):=by omega
      simp only [dK.l2,dK.l2T,decide_eq_true_eq,hml,c1,if_false,List.take_length];rfl
    | succ d ih =>
      intro j hd hj X v hX;have hj':j<(jr A B).length:=by omega
      have c1:(j:Int)<((jr A B).length:Int):=by omega
      have c2:(0:Int)≤(j:Int):=by omega
      have hw:=nx c1 c2 (by omega);refine Ev.step (fun k=>rfl) ?_;simp only [dK.l2,dK.l2T,decide_eq_true_eq,hml,c1,c2,if_true,hw,rdP _ j (show j<((jr A B).map fun i=>(⟨(vF A i).1,(vF B i).1⟩:P2)).length by rw [hml];exact hj'),rdI _ j hj',agG,Option.bind_some,List.getElem_map];have hlen:(((jr A B).take j).map fun i=>(⟨i,DL (vF A i).1 (vF B i).1⟩:Gn)).length+1≤4398046511104:=by simp;omega
      refine Ev.yes hlen ?_;have:=ih (j+1) (by omega) (by omega) (fun k=>X (k+1)) v (Ev.shift hX);rw [List.take_succ_eq_append_getElem hj',List.map_append,hml] at this;exact this
  have hml:(((List.range (nF A B)).map (fun (i:Nat)=>(⟨bF A (i:Int),bF B (i:Int)⟩:P2))).map fun q=>DL q.f0 q.f1)=(gX DL A B).f2:=by
    simp [gX,List.map_map,Function.comp_def]
  have hll:((((List.range (nF A B)).map (fun (i:Nat)=>(⟨bF A (i:Int),bF B (i:Int)⟩:P2)))).length:Int)=(gX DL A B).f1:=by simp [gX]
  have fin:∀ v,Ev (fun k=>(dJ.f k (gX DL A B).f0 (gX DL A B).f1 (gX DL A B).f2 (gX DL A B).f3).bind fun aa=>(if (decide (aa=0))=true then ((dN.f k (gX DL A B).f0 (gX DL A B).f1 (gX DL A B).f2 (gX DL A B).f3).bind fun t16=>(some ((⟨t16.f0,t16.f1,t16.f2,t16.f3⟩:Fm),(0:Int)))) else (if (decide (aa=3))=true then some (noF,3) else some (noF,51)))) v →
      Ev (fun k=>dK.f k p c core odd p' c' gU kQ) v:=fun v hv=>by
    unfold dK.f;refine Ev.bind ca (Ev.bind cb (Ev.bind c1 (Ev.no (by simp) (Ev.bind od (Ev.bind d1 (Ev.no (by simp) (Ev.bind e1 (Ev.no (by simp) ?_))))))));unfold dK.l0;have k2:=l2 (jr A B).length 0 (by omega) (by omega) (fun k ab=>(dJ.f k (gX DL A B).f0 (gX DL A B).f1 (gX DL A B).f2 ab).bind fun aa=>(if (decide (aa=0))=true then ((dN.f k (gX DL A B).f0 (gX DL A B).f1 (gX DL A B).f2 ab).bind fun t16=>(some ((⟨t16.f0,t16.f1,t16.f2,t16.f3⟩:Fm),(0:Int)))) else (if (decide (aa=3))=true then some (noF,3) else some (noF,51)))) v hv;have k1:=l1 ((List.range (nF A B)).map (fun (i:Nat)=>(⟨bF A (i:Int),bF B (i:Int)⟩:P2))) (by simp;omega) _ 0 rfl (by omega) (fun k ac=>dK.l2 (fun ab=>(dJ.f k (gX DL A B).f0 (gX DL A B).f1 ac ab).bind fun aa=>(if (decide (aa=0))=true then ((dN.f k (gX DL A B).f0 (gX DL A B).f1 ac ab).bind fun t16=>(some ((⟨t16.f0,t16.f1,t16.f2,t16.f3⟩:Fm),(0:Int)))) else (if (decide (aa=3))=true then some (noF,3) else some (noF,51)))) (jr A B) ((jr A B).map fun i=>(⟨(vF A i).1,(vF B i).1⟩:P2)) (((jr A B).map fun i=>(⟨(vF A i).1,(vF B i).1⟩:P2)).length:Int) k 0 []) v (by rw [hml];exact k2);simp only [hll] at k1 ⊢;exact k1
  by_cases hg:grF (gX DL A B)
  · have he:e=0:=f4.2 ⟨by omega,hg⟩
    subst he;obtain ⟨h,h1,h2⟩:=kY (p:=(gX DL A B).f0) (c:=(gX DL A B).f1) (core:=(gX DL A B).f2) (odd:=(gX DL A B).f3) hg.s;have r1:=fin (h,0) (Ev.bind f1 (Ev.yes rfl (Ev.bind h1 (Ev.now _))));exact ⟨_,r1,fun hh=>absurd hal hh,fun _=>⟨fun hh=>absurd hg hh,fun _=>⟨h,h2,rfl⟩⟩⟩
  · have he:e=50:=by
      rcases f2 with e' | e' | e'
      · exact absurd (f4.1 e').2 hg
      · exact absurd (f3.1 e') (by omega)
      · exact e'
    subst he;have r1:=fin (noF,51) (Ev.bind f1 (Ev.no (by simp) (Ev.no (by simp) (Ev.now _))));exact ⟨_,r1,fun hh=>absurd hal hh,fun _=>⟨fun _=>rfl,fun hh=>absurd hh hg⟩⟩
end Go.Proofs.YtcomnjodjijcmaaGreat.Q
namespace Go.Proofs.YtcomnjodjijcmaaGreat.Q
set_option linter.unusedVariables false
set_option linter.unusedSimpArgs false
open Go.RowKit Go.Proofs.YtcomnjodjijcmaaGreatW.dB Go.Proofs.YtcomnjodjijcmaaGreatW.eO M R P
section
theorem acn {l:List Int} {x:Int}:x∈kP l↔x∈l:=(mZ l).mem_iff
theorem qc (zs:List Int) (j:Nat) (h:j<zs.length):zs.toArray[j]! = zs[j]:=by simp [h]
theorem aaC {zs:List Int} (h:zs.Pairwise (· ≤ ·)):(ji zs).Pairwise (· < ·):=by
  unfold ji Lib.compact Lib.compactUpTo;rw [List.pairwise_map];refine List.Pairwise.imp_of_mem (R:=(· < ·)) (fun {i j} hi hj hij => ?_) (List.pairwise_lt_range.filter _);have hi':=List.mem_range.1 (List.mem_filter.1 hi).1;obtain ⟨hj1,hj2⟩:=List.mem_filter.1 hj;have hj':=List.mem_range.1 hj1;rw [qc zs i hi',qc zs j hj'];have hk:zs.toArray[j]! ≠ zs.toArray[j - 1]! := by
    have:j=0∨zs.toArray[j]! ≠ zs.toArray[j - 1]! := of_decide_eq_true hj2;rcases this with e | e
    · omega
    · exact e
  rw [qc zs j hj',qc zs (j - 1) (by omega)] at hk;have h1:zs[j - 1]'(by omega)≤zs[j]:=List.pairwise_iff_getElem.1 h (j - 1) j (by omega) hj' (by omega);have h2:zs[i]≤zs[j - 1]'(by omega):=by
    rcases Nat.lt_or_ge i (j - 1) with g | g
    · exact List.pairwise_iff_getElem.1 h i (j - 1) hi' (by omega) g
    · have:i=j - 1:=by omega
      subst this;exact Int.le_refl _
  omega
theorem xY {zs:List Int} {x:Int}:x∈ji zs↔x∈zs:=by
  unfold ji Lib.compact Lib.compactUpTo;rw [List.mem_map];constructor
  · rintro ⟨j,hj,rfl⟩
    have hj':=List.mem_range.1 (List.mem_filter.1 hj).1;rw [qc zs j hj'];exact List.getElem_mem hj'
  · intro hx
    obtain ⟨j0,hj0,e0⟩:=List.mem_iff_getElem.1 hx;obtain ⟨j,⟨hj,e⟩,hm⟩:=least (P:=fun j=>∃ h:j<zs.length,zs[j]=x) j0 ⟨hj0,e0⟩;refine ⟨j,List.mem_filter.2 ⟨List.mem_range.2 hj,decide_eq_true ?_⟩,by rw [qc zs j hj];exact e⟩;rcases Nat.eq_zero_or_pos j with g | g
    · exact .inl g
    · right
      rw [qc zs j hj,qc zs (j - 1) (by omega),e];exact fun e2=>hm (j - 1) (by omega) ⟨by omega,e2.symm⟩
theorem aej (A B:Fm):(jr A B).Pairwise (· < ·):=aaC (uy _)
theorem xZ {A B:Fm} {i:Int}:i∈jr A B↔(∃ g∈A.f3,g.f0=i)∨∃ g∈B.f3,g.f0=i:=by
  unfold jr;rw [xY,acn,List.mem_map];constructor
  · rintro ⟨g,hg,rfl⟩
    rcases List.mem_append.1 hg with h | h
    · exact .inl ⟨g,h,rfl⟩
    · exact .inr ⟨g,h,rfl⟩
  · rintro (⟨g,hg,rfl⟩ | ⟨g,hg,rfl⟩)
    · exact ⟨g,List.mem_append_left _ hg,rfl⟩
    · exact ⟨g,List.mem_append_right _ hg,rfl⟩
def gF (A:Fm) (i:Int):List Sp:=gT A.f0 A.f1 A.f2 A.f3 i
def cnF (A:Fm):Prop:=Can A.f0 A.f1 A.f2 A.f3
theorem mQ {A:Fm} {i:Int} (h:∀ g∈A.f3,g.f0≠i):gF A i=bF A i:=by
  unfold gF bF;rw [lZ (jF.2 h),oK]
theorem rP {A:Fm} (h:A.f2=[]) (i:Int):bF A i=[]:=agB h
theorem aek {a b:Nat} (ha:a≠0):a ∣ rn a b:=by
  unfold rn;rw [if_neg ha];split
  · exact Nat.dvd_refl _
  · exact Nat.dvd_lcm_left a b
theorem agI {A B:Fm} (h:sfF A):A.f2≠[]→Stp (bF A) (nF A B) (tF A B):=fun hne=>by
  have hl:A.f2.length≠0:=fun e=>hne (List.length_eq_zero_iff.1 e);have s:=afn (qy h (by omega)) (nF A B / A.f2.length);have e1:nF A B / A.f2.length*A.f2.length=nF A B:=Nat.div_mul_cancel (aek hl);have e2:((nF A B / A.f2.length:Nat):Int)*A.f0=tF A B:=by
    unfold tF rt;rw [if_neg hl,Int.mul_comm];rfl
  rw [e1,e2] at s;exact s
theorem aco {B:Int→List Sp} (h:∀ i,B i=[]) (n:Nat) (t:Int):Stp B n t:=fun i=>by rw [h,h];rfl
theorem agJ {A B:Fm} (ha:sfF A) (hb:sfF B) (h:A.f2=[]):tF A B=tF B A:=by
  have h0:A.f2.length=0:=by rw [h];rfl
  have q0:A.f0=0:=ha.hz.1 (by rw [ha.hc,h0];rfl);by_cases hB:B.f2.length=0
  · have q1:B.f0=0:=hb.hz.1 (by rw [hb.hc,hB];rfl)
    unfold tF rt;rw [if_pos h0,if_pos hB,q0,q1]
  · unfold tF rt rn
    rw [if_pos h0,if_neg hB,if_neg hB,if_pos h0,Nat.div_self (by omega)];simp
theorem adP {A B:Fm} (ha:sfF A) (hb:sfF B) (hf:oL A B):Stp (bF A) (nF A B) (tF A B)∧Stp (bF B) (nF A B) (tF A B):=by
  constructor
  · by_cases e:A.f2=[]
    · exact aco (rP e) _ _
    · exact agI ha e
  · by_cases e:B.f2=[]
    · exact aco (rP e) _ _
    · have:=agI (B:=A) hb e
      rw [uU B A] at this;have et:tF B A=tF A B:=by
        rcases hf with g | g | g
        · exact (agJ ha hb g).symm
        · exact absurd g e
        · exact g.symm
      rwa [et] at this
theorem acp {a b:Nat} (h:rn a b=0):a=0∧b=0:=by
  unfold rn at h;split at h
  · exact ⟨by assumption,h⟩
  · split at h
    · exact ⟨h,by assumption⟩
    · have:=Nat.lcm_pos (m:=a) (n:=b) (by omega) (by omega)
      omega
structure zI (D:List Sp→List Sp→List Sp):Prop where
  one:oneOf D
  sh:∀ n x y,D (x.map (fK n)) (y.map (fK n))=(D x y).map (fK n)
theorem afr:zI DU:=⟨afH,fun n x y=>by
  unfold DU;by_cases h:x=[]
  · rw [if_pos h,if_pos (by rw [h];rfl)]
  · rw [if_neg h,if_neg (by simpa using h)]⟩
theorem afs:zI DC:=⟨afI,fun n x y=>by
  unfold DC;by_cases h:y=[]
  · rw [if_pos h,if_pos (by rw [h];rfl)];rfl
  · rw [if_neg h,if_neg (by simpa using h)]⟩
theorem aft:zI DL:=⟨afJ,fun n x y=>by
  unfold DL;by_cases h:y=[]
  · rw [if_pos h,if_pos (by rw [h];rfl)]
  · rw [if_neg h,if_neg (by simpa using h)];rfl⟩
theorem zI.nil {D:List Sp→List Sp→List Sp} (h:zI D):D [] []=[]:=by
  rcases h.one [] [] with e | e | e <;> exact e
theorem acr {D:List Sp→List Sp→List Sp} (hD:zI D) {A B:Fm} (ha:sfF A) (hb:sfF B) (hf:oL A B) (i:Int):bF (gX D A B) i=D (bF A i) (bF B i):=by
  by_cases hn:nF A B=0
  · obtain ⟨e1,e2⟩:=acp hn
    have z1:A.f2=[]:=List.length_eq_zero_iff.1 e1;have z2:B.f2=[]:=List.length_eq_zero_iff.1 e2;rw [rP z1,rP z2,hD.nil];refine rP ?_ i;show (List.range (nF A B)).map _=[];rw [hn];rfl
  · obtain ⟨s1,s2⟩:=adP ha hb hf
    have q1:=Int.emod_nonneg i (show (nF A B:Int)≠0 by omega);have q2:=Int.emod_lt_of_pos i (show (0:Int)<(nF A B:Int) by omega);have q3:i % (nF A B:Int)+i / (nF A B:Int)*(nF A B:Int)=i:=by
      have:=Int.emod_add_mul_ediv i (nF A B:Int);rw [Int.mul_comm] at this;exact this
    have e1:=ach s1 (i % (nF A B:Int)) (i / (nF A B:Int));have e2:=ach s2 (i % (nF A B:Int)) (i / (nF A B:Int));rw [q3] at e1 e2;rw [e1,e2,hD.sh];show (gK (nF A B:Int) ((List.range (nF A B)).map (fun (i:Nat)=>D (bF A (i:Int)) (bF B (i:Int)))) i).map (fK (i / (nF A B:Int)*tF A B))=_;unfold gK;rw [if_neg (by omega)];have hlt:(i % (nF A B:Int)).toNat<nF A B:=by omega
    have hco:(((i % (nF A B:Int)).toNat:Nat):Int)=i % (nF A B:Int):=by omega
    rw [List.getD_eq_getElem?_getD,List.getElem?_map,List.getElem?_range hlt];simp only [Option.map_some,Option.getD_some,hco]
theorem afu {D:List Sp→List Sp→List Sp} {A B:Fm} {i:Int} (hi:i∈jr A B):jA (gX D A B).f3 i=some (D (vF A i).1 (vF B i).1):=by
  have hu:(gX D A B).f3.Pairwise (fun a b=>a.f0<b.f0):=by
    show ((jr A B).map fun i=>(⟨i,D (vF A i).1 (vF B i).1⟩:Gn)).Pairwise _;rw [List.pairwise_map];exact aej A B
  exact mO hu (g:=⟨i,D (vF A i).1 (vF B i).1⟩) (List.mem_map.2 ⟨i,hi,rfl⟩)
theorem sW {D:List Sp→List Sp→List Sp} (hD:zI D) {A B:Fm} (ha:sfF A) (hb:sfF B) (hf:oL A B) (va:∀ i∈jr A B,(vF A i).1=gF A i) (vb:∀ i∈jr A B,(vF B i).1=gF B i) (i:Int):gF (gX D A B) i=D (gF A i) (gF B i):=by
  by_cases hi:i∈jr A B
  · have:=afu (D:=D) hi
    have e:gF (gX D A B) i=D (vF A i).1 (vF B i).1:=pO this;rw [e,va i hi,vb i hi]
  · have h1:∀ g∈A.f3,g.f0≠i:=fun g hg e=>hi (xZ.2 (.inl ⟨g,hg,e⟩))
    have h2:∀ g∈B.f3,g.f0≠i:=fun g hg e=>hi (xZ.2 (.inr ⟨g,hg,e⟩));have h3:∀ g∈(gX D A B).f3,g.f0≠i:=fun g hg e=>by
      obtain ⟨j,hj,rfl⟩:=List.mem_map.1 hg;exact hi (e ▸ hj)
    rw [mQ h1,mQ h2,mQ h3,acr hD ha hb hf]
end
end Go.Proofs.YtcomnjodjijcmaaGreat.Q
namespace Go.Proofs.YtcomnjodjijcmaaGreat.Q
set_option linter.unusedVariables false
set_option linter.unusedSimpArgs false
open Go.RowKit Go.Proofs.YtcomnjodjijcmaaGreatW.dB Go.Proofs.YtcomnjodjijcmaaGreatW.eO M R P
section
variable {p c:Int} {core:List (List Sp)} {odd:List Gn}
theorem nG.rQ (w:nG p c core odd) {i:Int} (hi : -6000≤i∧i≤6000):jW p c core odd i=(gT p c core odd i,0):=by
  by_cases hz:fs c core odd i=[]
  · have e:gT p c core odd i=[]:=by unfold gT;rw [hz];rfl
    rw [nS,if_pos (by unfold inR;omega),if_pos e,e]
  · exact w.ok.s.pJ (w.ex hi hz)
theorem nG.bare (w:nG p c core odd) {i:Int} (hi:100<i):gT p c core odd i=bT p c core i:=by
  rw [← oK];exact lZ (jF.2 (fun g hg e=>by have:=(w.ho g hg).1;omega))
end
end Go.Proofs.YtcomnjodjijcmaaGreat.Q
